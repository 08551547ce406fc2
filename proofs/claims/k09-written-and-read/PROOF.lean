import PyProof.Rows.All
import Wide.All
import OpenK.AllK
import Wide.FinOn
import HandS.ForMost
import HandS.Exc
import HandS.TryOnly
import HandS.WordsExc
import HandS.TupAny
import HandS.TupMul
import HandS.Flow
import PyProof.StrBlock2
import HandS.IsInst
import HandS.Walk
import HandS.Style
import KE.GoesNew
import HandS.ReplaceLit
import HandS.ReplaceList
import HandS.RaiseMore
import PySem.Challenge.RW_sourrow_k09_worlds_written_and_read
set_option Elab.async false
set_option linter.all false
set_option maxRecDepth 100000
set_option maxHeartbeats 4000000
/-! The data layer: values as trees, what a piece of syntax gives, over the hand layer. -/
namespace Dl
open PySem PySem.Spec PyProof.Rows L2

/-- a value as a tree -/
inductive D where
  | non
  | bl (b : Bool)
  | int (i : Int)
  | str (s : List Nat)
  | tup (l : List D)
  | lst (l : List D)
  | dct (ks vs : List D)
  | obj (n : Nat)
  | cst (v : V)
  deriving Inhabited
/-- what a slot holds: a value that stands, or a list (a dict) of its own -/
inductive Cell where
  | val (d : D)
  | lst (l : List D)
  | dct (ks vs : List D)
/-- an object that is handed on by its place -/
inductive MObj where
  | drw (m : Int) (cs : List Int) (p : Int)
  | ins (c : Nat) (fs : List (Str × Cell))
  | dct (ks vs : List D)
abbrev Env := List (Option Cell)
abbrev Sto := List MObj

mutual
inductive Rep (F : Hp) (io : List Addr) : D → V → Prop
  | non : Rep F io .non .non
  | bl (b : Bool) : Rep F io (.bl b) (.bl b)
  | int (i : Int) : Rep F io (.int i) (.int i)
  | str (s : List Nat) : Rep F io (.str s) (.str ⟨s.toArray⟩)
  | tup {a : Addr} {ds : List D} {vs : List V} : F a = some (.tup vs) → Reps F io ds vs → Rep F io (.tup ds) (.ref a)
  | lst {a : Addr} {ds : List D} {vs : List V} : F a = some (.lst vs) → Reps F io ds vs → Rep F io (.lst ds) (.ref a)
  | obj {n : Nat} {a : Addr} : io[n]? = some a → Rep F io (.obj n) (.ref a)
  | cst (v : V) : Rep F io (.cst v) v
inductive Reps (F : Hp) (io : List Addr) : List D → List V → Prop
  | nil : Reps F io [] []
  | cons {d : D} {v : V} {ds : List D} {vs : List V} : Rep F io d v → Reps F io ds vs → Reps F io (d :: ds) (v :: vs)
end
def Sub (F F' : Hp) : Prop := ∀ a o, F a = some o → F' a = some o
theorem Sub.refl (F : Hp) : Sub F F := fun _ _ h => h
theorem Sub.trans {F F1 F2 : Hp} (a : Sub F F1) (b : Sub F1 F2) : Sub F F2 := fun c o h => b c o (a c o h)
def Pfx (l m : List Addr) : Prop := ∃ r, m = l ++ r
theorem Pfx.refl (l : List Addr) : Pfx l l := ⟨[], by simp⟩
theorem Pfx.trans {l m n : List Addr} (a : Pfx l m) (b : Pfx m n) : Pfx l n := by
  obtain ⟨r, rfl⟩ := a
  obtain ⟨s, rfl⟩ := b
  exact ⟨r ++ s, by simp⟩
theorem Pfx.get {l m : List Addr} (a : Pfx l m) {n : Nat} {b : Addr} (h : l[n]? = some b) : m[n]? = some b := by
  obtain ⟨r, rfl⟩ := a
  have := (List.getElem?_eq_some_iff.mp h).1
  rw [List.getElem?_append_left this]
  exact h
section
variable {F F' : Hp} {io io' : List Addr}
mutual
theorem Rep.mono (hF : Sub F F') (hi : Pfx io io') : ∀ {d : D} {v : V}, Rep F io d v → Rep F' io' d v
  | _, _, .non => .non
  | _, _, .bl b => .bl b
  | _, _, .int i => .int i
  | _, _, .str s => .str s
  | _, _, .tup e r => .tup (hF _ _ e) (Reps.mono hF hi r)
  | _, _, .lst e r => .lst (hF _ _ e) (Reps.mono hF hi r)
  | _, _, .obj e => .obj (hi.get e)
  | _, _, .cst v => .cst v
theorem Reps.mono (hF : Sub F F') (hi : Pfx io io') : ∀ {ds : List D} {vs : List V}, Reps F io ds vs → Reps F' io' ds vs
  | _, _, .nil => .nil
  | _, _, .cons r t => .cons (Rep.mono hF hi r) (Reps.mono hF hi t)
end
theorem Reps.length : ∀ {ds : List D} {vs : List V}, Reps F io ds vs → ds.length = vs.length
  | _, _, .nil => rfl
  | _, _, .cons _ t => congrArg (· + 1) (Reps.length t)
theorem Reps.get : ∀ {ds : List D} {vs : List V} {i : Nat} {d : D}, Reps F io ds vs → ds[i]? = some d → ∃ v, vs[i]? = some v ∧ Rep F io d v
  | _, _, _, _, .nil, e => by simp at e
  | _, _, 0, _, .cons r _, e => by simp at e; subst e; exact ⟨_, rfl, r⟩
  | _, _, i + 1, d, .cons _ t, e => by
    obtain ⟨u, h1, h2⟩ := Reps.get (i := i) (d := d) t (by simpa using e)
    exact ⟨u, by simpa using h1, h2⟩
theorem Reps.getV : ∀ {ds : List D} {vs : List V} {i : Nat} {v : V}, Reps F io ds vs → vs[i]? = some v → ∃ d, ds[i]? = some d ∧ Rep F io d v
  | _, _, _, _, .nil, e => by simp at e
  | _, _, 0, _, .cons r _, e => by simp at e; subst e; exact ⟨_, rfl, r⟩
  | _, _, i + 1, d, .cons _ t, e => by
    obtain ⟨u, h1, h2⟩ := Reps.getV (i := i) (v := d) t (by simpa using e)
    exact ⟨u, by simpa using h1, h2⟩
theorem Reps.append : ∀ {ds es : List D} {vs us : List V}, Reps F io ds vs → Reps F io es us → Reps F io (ds ++ es) (vs ++ us)
  | _, _, _, _, .nil, s => s
  | _, _, _, _, .cons r t, s => .cons r (Reps.append t s)
theorem Reps.take : ∀ {ds : List D} {vs : List V} (n : Nat), Reps F io ds vs → Reps F io (ds.take n) (vs.take n)
  | _, _, 0, _ => .nil
  | _, _, _ + 1, .nil => .nil
  | _, _, n + 1, .cons r t => .cons r (Reps.take n t)
theorem Reps.drop : ∀ {ds : List D} {vs : List V} (n : Nat), Reps F io ds vs → Reps F io (ds.drop n) (vs.drop n)
  | _, _, 0, r => r
  | _, _, _ + 1, .nil => .nil
  | _, _, n + 1, .cons _ t => Reps.drop n t
theorem Reps.set {d : D} {v : V} (r : Rep F io d v) : ∀ {ds : List D} {vs : List V} (i : Nat), Reps F io ds vs → Reps F io (ds.set i d) (vs.set i v)
  | _, _, _, .nil => .nil
  | _, _, 0, .cons _ t => .cons r t
  | _, _, i + 1, .cons q t => .cons q (Reps.set r i t)
end

/-- a cell, its value, the places that are its own -/
inductive CellR (F : Hp) (io : List Addr) (H : Hp) : Cell → V → List Addr → Prop
  | val {d : D} {v : V} : Rep F io d v → CellR F io H (.val d) v []
  | lst {a : Addr} {ds : List D} {vs : List V} : H a = some (.lst vs) → Reps F io ds vs → CellR F io H (.lst ds) (.ref a) [a]
inductive Vars (F : Hp) (io : List Addr) (H : Hp) : Env → L2.St → List Addr → Prop
  | nil : Vars F io H [] [] []
  | skip {o : Option V} {r : Env} {s : L2.St} {A : List Addr} : Vars F io H r s A → Vars F io H (none :: r) (o :: s) A
  | cons {c : Cell} {v : V} {r : Env} {s : L2.St} {A0 A : List Addr} : CellR F io H c v A0 → Vars F io H r s A → Vars F io H (some c :: r) (some v :: s) (A0 ++ A)
inductive ObjR (F : Hp) (io : List Addr) (H : Hp) : MObj → Addr → List Addr → Prop
  | drw {a b : Addr} {m p : Int} {cs : List Int} : H a = some (.lst [.int m, .ref b, .int p]) → H b = some (.lst (cs.map V.int)) → ObjR F io H (.drw m cs p) a [a, b]
inductive Stos (F : Hp) (io : List Addr) (H : Hp) : Sto → List Addr → List Addr → Prop
  | nil : Stos F io H [] [] []
  | cons {o : MObj} {a : Addr} {m : Sto} {l A0 A : List Addr} : ObjR F io H o a A0 → Stos F io H m l A → Stos F io H (o :: m) (a :: l) (A0 ++ A)

section
variable {F F' : Hp} {io io' : List Addr} {H H' : Hp}
def Keep (A : List Addr) (H H' : Hp) : Prop := ∀ b ∈ A, ∀ o, H b = some o → H' b = some o
theorem CellR.mono (hF : Sub F F') (hi : Pfx io io') {c : Cell} {v : V} {A : List Addr} (h : CellR F io H c v A) (k : Keep A H H') : CellR F' io' H' c v A := by
  cases h with
  | val r => exact .val (r.mono hF hi)
  | lst e r => exact .lst (k _ (by simp) _ e) (r.mono hF hi)
theorem CellR.there {c : Cell} {v : V} {A : List Addr} (h : CellR F io H c v A) : ∀ b ∈ A, H b ≠ none := by
  cases h with
  | val r => intro b hb; cases hb
  | lst e r =>
    intro b hb
    have hb := List.mem_singleton.mp hb
    subst hb
    rw [e]
    exact fun z => by cases z
theorem ObjR.mono (hF : Sub F F') (hi : Pfx io io') {o : MObj} {a : Addr} {A : List Addr} (h : ObjR F io H o a A) (k : Keep A H H') : ObjR F' io' H' o a A := by
  cases h with
  | drw e1 e2 => exact .drw (k _ (by simp) _ e1) (k _ (by simp) _ e2)
theorem ObjR.there {o : MObj} {a : Addr} {A : List Addr} (h : ObjR F io H o a A) : ∀ b ∈ A, H b ≠ none := by
  cases h with
  | drw e1 e2 =>
    intro b hb
    simp only [List.mem_cons, List.not_mem_nil, or_false] at hb
    rcases hb with rfl | rfl
    · rw [e1]; exact fun z => by cases z
    · rw [e2]; exact fun z => by cases z
theorem Vars.mono (hF : Sub F F') (hi : Pfx io io') : ∀ {r : Env} {s : L2.St} {A : List Addr}, Vars F io H r s A → Keep A H H' → Vars F' io' H' r s A
  | _, _, _, .nil, _ => .nil
  | _, _, _, .skip t, k => .skip (Vars.mono hF hi t k)
  | _, _, _, .cons c t, k => .cons (c.mono hF hi fun b hb => k b (List.mem_append_left _ hb)) (Vars.mono hF hi t fun b hb => k b (List.mem_append_right _ hb))
theorem Stos.mono (hF : Sub F F') (hi : Pfx io io') : ∀ {m : Sto} {l : List Addr} {A : List Addr}, Stos F io H m l A → Keep A H H' → Stos F' io' H' m l A
  | _, _, _, .nil, _ => .nil
  | _, _, _, .cons c t, k => .cons (c.mono hF hi fun b hb => k b (List.mem_append_left _ hb)) (Stos.mono hF hi t fun b hb => k b (List.mem_append_right _ hb))
theorem Vars.there : ∀ {r : Env} {s : L2.St} {A : List Addr}, Vars F io H r s A → ∀ b ∈ A, H b ≠ none
  | _, _, _, .nil => fun b hb => by cases hb
  | _, _, _, .skip t => Vars.there t
  | _, _, _, .cons c t => fun b hb => (List.mem_append.mp hb).elim (c.there b) (Vars.there t b)
theorem Stos.there : ∀ {m : Sto} {l : List Addr} {A : List Addr}, Stos F io H m l A → ∀ b ∈ A, H b ≠ none
  | _, _, _, .nil => fun b hb => by cases hb
  | _, _, _, .cons c t => fun b hb => (List.mem_append.mp hb).elim (c.there b) (Stos.there t b)
theorem Vars.length : ∀ {r : Env} {s : L2.St} {A : List Addr}, Vars F io H r s A → r.length = s.length
  | _, _, _, .nil => rfl
  | _, _, _, .skip t => congrArg (· + 1) (Vars.length t)
  | _, _, _, .cons _ t => congrArg (· + 1) (Vars.length t)
/-- the i-th slot apart from the others -/
theorem Vars.at : ∀ {r : Env} {s : L2.St} {A : List Addr} {i : Nat}, Vars F io H r s A → i < r.length → ∃ A0 A', A.Perm (A0 ++ A') ∧
    (∀ c, r[i]? = some (some c) → ∃ v, s[i]? = some (some v) ∧ CellR F io H c v A0) ∧
    (∀ {F' io' H'} (_ : Sub F F') (_ : Pfx io io') (_ : Keep A' H H') {c' v' A1}, CellR F' io' H' c' v' A1 → ∃ A2, A2.Perm (A1 ++ A') ∧ Vars F' io' H' (r.set i (some c')) (s.set i (some v')) A2) ∧
    (∃ A2, A2.Perm A' ∧ ∀ o, Vars F io H (r.set i none) (s.set i o) A2)
  | _, _, _, i, .nil, h => absurd h (Nat.not_lt_zero _)
  | _, _, _, 0, .skip t, h => by
    refine ⟨[], _, List.Perm.refl _, fun c e => ?_, fun hF hi k => fun hc => ⟨_, List.Perm.refl _, .cons hc (t.mono hF hi k)⟩, _, List.Perm.refl _, fun o => .skip t⟩
    simp at e
  | _, _, _, 0, .cons c t, h => by
    refine ⟨_, _, List.Perm.refl _, fun c' e => ?_, fun hF hi k => fun hc => ⟨_, List.Perm.refl _, .cons hc (t.mono hF hi k)⟩, _, List.Perm.refl _, fun o => .skip t⟩
    simp at e
    subst e
    exact ⟨_, rfl, c⟩
  | _, _, _, i + 1, .skip t, h => by
    obtain ⟨A0, A', p, g, w, A2, p2, n⟩ := Vars.at (i := i) t (Nat.lt_of_succ_lt_succ h)
    refine ⟨A0, A', p, fun c e => ?_, fun hF hi k => fun hc => ?_, A2, p2, fun o => .skip (n o)⟩
    · exact g c (by simpa using e)
    · obtain ⟨A3, p3, w3⟩ := w hF hi k hc
      exact ⟨A3, p3, .skip w3⟩
  | _, _, _, i + 1, .cons (A0 := B0) (A := B) c t, h => by
    obtain ⟨A0, A', p, g, w, A2, p2, n⟩ := Vars.at (i := i) t (Nat.lt_of_succ_lt_succ h)
    refine ⟨A0, B0 ++ A', ?_, fun c e => ?_, fun hF hi k => fun hc => ?_, B0 ++ A2, List.Perm.append_left _ p2, fun o => .cons c (n o)⟩
    · refine (List.Perm.append_left B0 p).trans ?_
      rw [← List.append_assoc, ← List.append_assoc]
      exact List.Perm.append_right _ List.perm_append_comm
    · exact g c (by simpa using e)
    · obtain ⟨A3, p3, w3⟩ := w hF hi (fun b hb => k b (List.mem_append_right _ hb)) hc
      refine ⟨B0 ++ A3, ?_, .cons (c.mono hF hi fun b hb => k b (List.mem_append_left _ hb)) w3⟩
      refine (List.Perm.append_left B0 p3).trans ?_
      rw [← List.append_assoc, ← List.append_assoc]
      exact List.Perm.append_right _ List.perm_append_comm
/-- the n-th object apart from the others -/
theorem Stos.at : ∀ {m : Sto} {l A : List Addr} {n : Nat} {o : MObj}, Stos F io H m l A → m[n]? = some o → ∃ a A0 A', l[n]? = some a ∧ A.Perm (A0 ++ A') ∧ ObjR F io H o a A0 ∧
    ∀ {F' io' H'} (_ : Sub F F') (_ : Pfx io io') (_ : Keep A' H H') {o' A1}, ObjR F' io' H' o' a A1 → ∃ A2, A2.Perm (A1 ++ A') ∧ Stos F' io' H' (m.set n o') l A2
  | _, _, _, n, _, .nil, h => by simp at h
  | _, _, _, 0, _, .cons c t, h => by
    simp at h
    subst h
    exact ⟨_, _, _, rfl, List.Perm.refl _, c, fun hF hi k => fun hc => ⟨_, List.Perm.refl _, .cons hc (t.mono hF hi k)⟩⟩
  | _, _, _, n + 1, o, .cons (A0 := B0) (A := B) c t, h => by
    obtain ⟨a, A0, A', e, p, g, w⟩ := Stos.at (n := n) (o := o) t (by simpa using h)
    refine ⟨a, A0, B0 ++ A', by simpa using e, ?_, g, fun hF hi k => fun hc => ?_⟩
    · refine (List.Perm.append_left B0 p).trans ?_
      rw [← List.append_assoc, ← List.append_assoc]
      exact List.Perm.append_right _ List.perm_append_comm
    · obtain ⟨A3, p3, w3⟩ := w hF hi (fun b hb => k b (List.mem_append_right _ hb)) hc
      refine ⟨B0 ++ A3, ?_, .cons (c.mono hF hi fun b hb => k b (List.mem_append_left _ hb)) w3⟩
      refine (List.Perm.append_left B0 p3).trans ?_
      rw [← List.append_assoc, ← List.append_assoc]
      exact List.Perm.append_right _ List.perm_append_comm
end

/-- the ghost of a state: what stands, the objects' places, the places that are the slots' own, the objects' own -/
structure Sx where
  F : Hp
  io : List Addr
  A1 : List Addr
  A2 : List Addr
structure Rel (x : Sx) (r : Env) (m : Sto) (s : L2.St) (H : Hp) : Prop where
  sub : Sub x.F H
  vars : Vars x.F x.io H r s x.A1
  sto : Stos x.F x.io H m x.io x.A2
  nd : (x.A1 ++ x.A2).Nodup
  nF : ∀ a ∈ x.A1 ++ x.A2, x.F a = none
/-- from one state to a later one: what is at M may have changed -/
structure Stp (M : List Addr) (x : Sx) (H : Hp) (y : Sx) (H' : Hp) : Prop where
  F : Sub x.F y.F
  io : Pfx x.io y.io
  keep : ∀ b o, H b = some o → b ∉ M → H' b = some o
  there : ∀ b, H' b = none → H b = none
  newF : ∀ b, x.F b = none → y.F b ≠ none → H b = none ∨ b ∈ M
  newA : ∀ b ∈ y.A2, b ∈ x.A2 ∨ H b = none
/-- the same for an expression: the slots' own places stay -/
structure StE (x : Sx) (H : Hp) (y : Sx) (H' : Hp) : Prop where
  st : Stp x.A2 x H y H'
  a1 : y.A1 = x.A1
/-- for a statement -/
structure StS (x : Sx) (H : Hp) (y : Sx) (H' : Hp) : Prop where
  st : Stp (x.A1 ++ x.A2) x H y H'
  a1 : ∀ b ∈ y.A1, b ∈ x.A1 ∨ b ∈ x.A2 ∨ H b = none
section
variable {x y z : Sx} {H H1 H2 : Hp}
theorem Stp.refl {M : List Addr} : Stp M x H x H := ⟨.refl _, .refl _, fun _ _ h _ => h, fun _ h => h, fun b h1 h2 => absurd h1 h2, fun b h => .inl h⟩
theorem StE.refl : StE x H x H := ⟨.refl, rfl⟩
theorem StS.refl : StS x H x H := ⟨.refl, fun b h => .inl h⟩
theorem StE.trans (a : StE x H y H1) (b : StE y H1 z H2) : StE x H z H2 := by
  refine ⟨⟨a.st.F.trans b.st.F, a.st.io.trans b.st.io, fun c o h n => b.st.keep c o (a.st.keep c o h n) fun q => ?_, fun c h => a.st.there c (b.st.there c h), fun c h1 h2 => ?_, fun c h => ?_⟩, b.a1.trans a.a1⟩
  · rcases a.st.newA c q with q | q
    · exact n q
    · rw [h] at q; cases q
  · cases q : y.F c with
    | none =>
      rcases b.st.newF c q h2 with w | w
      · exact .inl (a.st.there c w)
      · exact (a.st.newA c w).elim .inr .inl
    | some o => exact a.st.newF c h1 (by rw [q]; exact fun z => by cases z)
  · rcases b.st.newA c h with q | q
    · exact a.st.newA c q
    · exact .inr (a.st.there c q)
theorem StE.toS (a : StE x H y H1) : StS x H y H1 := by
  refine ⟨⟨a.st.F, a.st.io, fun c o h n => a.st.keep c o h fun q => n (List.mem_append_right _ q), a.st.there, fun c h1 h2 => (a.st.newF c h1 h2).elim .inl fun q => .inr (List.mem_append_right _ q), a.st.newA⟩, fun c h => .inl (by rw [← a.a1]; exact h)⟩
theorem StS.trans (a : StS x H y H1) (b : StS y H1 z H2) : StS x H z H2 := by
  have old : ∀ c o, H c = some o → c ∈ y.A1 ++ y.A2 → c ∈ x.A1 ++ x.A2 := fun c o h q => by
    rcases List.mem_append.mp q with q | q
    · rcases a.a1 c q with w | w | w
      · exact List.mem_append_left _ w
      · exact List.mem_append_right _ w
      · rw [h] at w; cases w
    · rcases a.st.newA c q with w | w
      · exact List.mem_append_right _ w
      · rw [h] at w; cases w
  have old2 : ∀ c, c ∈ y.A1 ++ y.A2 → H c = none ∨ c ∈ x.A1 ++ x.A2 := fun c q => by
    cases h : H c with
    | none => exact .inl rfl
    | some o => exact .inr (old c o h q)
  refine ⟨⟨a.st.F.trans b.st.F, a.st.io.trans b.st.io, fun c o h n => b.st.keep c o (a.st.keep c o h n) fun q => n (old c o h q), fun c h => a.st.there c (b.st.there c h), fun c h1 h2 => ?_, fun c h => ?_⟩, fun c h => ?_⟩
  · cases q : y.F c with
    | none =>
      rcases b.st.newF c q h2 with w | w
      · exact .inl (a.st.there c w)
      · exact old2 c w
    | some o => exact a.st.newF c h1 (by rw [q]; exact fun z => by cases z)
  · rcases b.st.newA c h with q | q
    · exact a.st.newA c q
    · exact .inr (a.st.there c q)
  · rcases b.a1 c h with q | q | q
    · exact a.a1 c q
    · exact .inr (a.st.newA c q)
    · exact .inr (.inr (a.st.there c q))
end
end Dl
/-! The data layer: judgements, what is read of a state, binding. -/
namespace Dl
open PySem PySem.Spec PyProof.Rows L2

/-- what a piece of syntax comes to: a value and the objects; a refusal; nothing that is told -/
inductive R (α : Type) where
  | ok (a : α) (m : Sto)
  | exc (c : Nat) (v : D) (m : Sto)
  | bad
def bindR {α β : Type} (r : R α) (f : α → Sto → R β) : R β := match r with
  | .ok a m => f a m
  | .exc c v m => .exc c v m
  | .bad => .bad
@[simp] theorem bindR_ok {α β : Type} (a : α) (m : Sto) (f : α → Sto → R β) : bindR (.ok a m) f = f a m := rfl
@[simp] theorem bindR_exc {α β : Type} (c : Nat) (v : D) (m : Sto) (f : α → Sto → R β) : bindR (.exc c v m) f = .exc c v m := rfl
@[simp] theorem bindR_bad {α β : Type} (f : α → Sto → R β) : bindR (.bad : R α) f = .bad := rfl
def ofO {α : Type} (o : Option α) (m : Sto) : R α := match o with
  | some a => .ok a m
  | none => .bad
@[simp] theorem ofO_some {α : Type} (a : α) (m : Sto) : ofO (some a) m = .ok a m := rfl
@[simp] theorem ofO_none {α : Type} (m : Sto) : ofO (none : Option α) m = .bad := rfl
abbrev Sem1 (α : Type) := Env → Sto → R α
abbrev SE := Sem1 D
abbrev SB := Sem1 Bool
abbrev SL := Sem1 (List D)

/-- what a def or a block wishes of refusals: the classes' places, their fields' names, the wish -/
structure Wi where
  T : Nat → Addr
  fld : Nat → Str
  W : WX
/-- how a refusal of the kind c with the value v lies -/
def ExAt (w : Wi) (c : Nat) (v : D) (cls : Value) (d : Option Addr) (y : Sx) (H : Hp) : Prop :=
  cls = .ref (w.T c) ∧ ((v = .non ∧ d = none) ∨ ∃ a u, d = some a ∧ H a = some (.xd [(w.fld c, u)]) ∧ Rep y.F y.io v u ∧ a ∉ y.A1 ++ y.A2 ∧ y.F a = none)

abbrev PP (α β : Type) := Sx → Hp → α → β → Prop
/-- a value that stands -/
def PV : PP D V := fun x _ d v => Rep x.F x.io d v
/-- a value that is looked at: it may be a slot's own list -/
def Pk : PP D V := fun x H d v => Rep x.F x.io d v ∨ ∃ ds vs a, d = .lst ds ∧ v = .ref a ∧ a ∈ x.A1 ∧ H a = some (.lst vs) ∧ Reps x.F x.io ds vs
def PB : PP Bool Bool := fun _ _ a b => a = b
def PL : PP (List D) (List V) := fun x _ ds vs => Reps x.F x.io ds vs
inductive Pks (x : Sx) (H : Hp) : List D → List V → Prop
  | nil : Pks x H [] []
  | cons {d : D} {v : V} {ds : List D} {vs : List V} : Pk x H d v → Pks x H ds vs → Pks x H (d :: ds) (v :: vs)
def Fin {α β : Type} (P : PP α β) (w : Wi) (x : Sx) (r : Env) (s : L2.St) (H : Hp) (Q : β → Hp → Prop) : R α → Prop
  | .ok a m => ∀ b y H', Rel y r m s H' → P y H' a b → StE x H y H' → Q b H'
  | .exc c v m => ∀ cls d y H', Rel y r m s H' → ExAt w c v cls d y H' → StE x H y H' → w.W cls d s H'
  | .bad => False
def rd {α β : Type} (P : PP α β) (w : Wi) (f : Sem1 α) (s : L2.St) (H : Hp) (Q : β → Hp → Prop) : Prop := ∃ x r m, Rel x r m s H ∧ Fin P w x r s H Q (f r m)

section
variable {x y : Sx} {r : Env} {m : Sto} {s : L2.St} {H H' : Hp} {w : Wi}
theorem Pk.stay {d : D} {v : V} (h : Pk x H d v) (R : Rel x r m s H) (st : StE x H y H') : Pk y H' d v := by
  rcases h with h | ⟨ds, vs, a, e1, e2, ha, e, q⟩
  · exact .inl (h.mono st.st.F st.st.io)
  · refine .inr ⟨ds, vs, a, e1, e2, by rw [st.a1]; exact ha, st.st.keep a _ e fun z => ?_, q.mono st.st.F st.st.io⟩
    exact (List.nodup_append.mp R.nd).2.2 a ha a z rfl
theorem Pks.stay {ds : List D} {vs : List V} (h : Pks x H ds vs) (R : Rel x r m s H) (st : StE x H y H') : Pks y H' ds vs := by
  induction h with
  | nil => exact .nil
  | cons a _ ih => exact .cons (a.stay R st) ih
theorem Pk.of {d : D} {v : V} (h : Rep x.F x.io d v) : Pk x H d v := .inl h
theorem Pks.of : ∀ {ds : List D} {vs : List V}, Reps x.F x.io ds vs → Pks x H ds vs
  | _, _, .nil => .nil
  | _, _, .cons a t => .cons (.inl a) (Pks.of t)
/-- a list that is looked at -/
theorem Pk.lst {ds : List D} {v : V} (h : Pk x H (.lst ds) v) (R : Rel x r m s H) : ∃ a vs, v = .ref a ∧ H a = some (.lst vs) ∧ Reps x.F x.io ds vs := by
  rcases h with h | ⟨ds', vs, a, e1, e2, ha, e, q⟩
  · cases h with
    | lst e q => exact ⟨_, _, rfl, R.sub _ _ e, q⟩
  · cases e1
    exact ⟨a, vs, e2, e, q⟩
theorem Pk.tup {ds : List D} {v : V} (h : Pk x H (.tup ds) v) (R : Rel x r m s H) : ∃ a vs, v = .ref a ∧ x.F a = some (.tup vs) ∧ H a = some (.tup vs) ∧ Reps x.F x.io ds vs := by
  rcases h with h | ⟨ds', vs, a, e1, e2, ha, e, q⟩
  · cases h with
    | tup e q => exact ⟨_, _, rfl, e, R.sub _ _ e, q⟩
  · cases e1
theorem Pk.int {i : Int} {v : V} (h : Pk x H (.int i) v) : v = .int i := by
  rcases h with h | ⟨ds', vs, a, e1, e2, ha, e, q⟩
  · cases h; rfl
  · cases e1
theorem Pk.bl {i : Bool} {v : V} (h : Pk x H (.bl i) v) : v = .bl i := by
  rcases h with h | ⟨ds', vs, a, e1, e2, ha, e, q⟩
  · cases h; rfl
  · cases e1
theorem Pk.non {v : V} (h : Pk x H .non v) : v = .non := by
  rcases h with h | ⟨ds', vs, a, e1, e2, ha, e, q⟩
  · cases h; rfl
  · cases e1
theorem Pk.str {z : List Nat} {v : V} (h : Pk x H (.str z) v) : v = .str ⟨z.toArray⟩ := by
  rcases h with h | ⟨ds', vs, a, e1, e2, ha, e, q⟩
  · cases h; rfl
  · cases e1
theorem Pk.obj {n : Nat} {v : V} (h : Pk x H (.obj n) v) : ∃ a, v = .ref a ∧ x.io[n]? = some a := by
  rcases h with h | ⟨ds', vs, a, e1, e2, ha, e, q⟩
  · cases h with
    | obj e => exact ⟨_, rfl, e⟩
  · cases e1

theorem Rel.there (R : Rel x r m s H) : ∀ b ∈ x.A1 ++ x.A2, H b ≠ none := fun b hb => (List.mem_append.mp hb).elim (R.vars.there b) (R.sto.there b)
/-- a new thing that will stand as it is -/
theorem Rel.new {p : Addr} {o : HO} (R : Rel x r m s H) (hp : H p = none) : Rel { x with F := upd x.F p o } r m s (upd H p o) := by
  have hpF : x.F p = none := by
    cases e : x.F p with
    | none => rfl
    | some q => rw [R.sub _ _ e] at hp; cases hp
  have hs : Sub x.F (upd x.F p o) := fun b q e => by rw [upd_ne (ne_of_none e hpF)]; exact e
  have k : ∀ A : List Addr, Keep A H (upd H p o) := fun A b _ q e => by rw [upd_ne (ne_of_none e hp)]; exact e
  refine ⟨fun b q e => ?_, R.vars.mono hs (.refl _) (k _), R.sto.mono hs (.refl _) (k _), R.nd, fun b hb => ?_⟩
  · by_cases hb : b = p
    · subst hb
      have e : upd x.F b o b = some q := e
      rw [upd_same] at e
      rw [upd_same, e]
    · have e : upd x.F p o b = some q := e
      rw [upd_ne hb] at e
      rw [upd_ne hb]
      exact R.sub _ _ e
  · have hbp : b ≠ p := fun z => R.there b hb (by rw [z]; exact hp)
    show upd x.F p o b = none
    rw [upd_ne hbp]
    exact R.nF b hb
theorem StE.new {p : Addr} {o : HO} (R : Rel x r m s H) (hp : H p = none) : StE x H { x with F := upd x.F p o } (upd H p o) := by
  have hpF : x.F p = none := by
    cases e : x.F p with
    | none => rfl
    | some q => rw [R.sub _ _ e] at hp; cases hp
  refine ⟨⟨fun b q e => ?_, .refl _, fun b q e _ => ?_, fun b e => ?_, fun b h1 h2 => ?_, fun b h => .inl h⟩, rfl⟩
  · show upd x.F p o b = some q
    rw [upd_ne (ne_of_none e hpF)]
    exact e
  · rw [upd_ne (ne_of_none e hp)]
    exact e
  · by_cases hb : b = p
    · subst hb; exact hp
    · rw [upd_ne hb] at e
      exact e
  · by_cases hb : b = p
    · subst hb; exact .inl hp
    · have h2 : upd x.F p o b ≠ none := h2
      rw [upd_ne hb] at h2
      exact absurd h1 h2

variable {α β γ δ : Type}
theorem Fin.shift {P : PP α β} {Q : β → Hp → Prop} {a : R α} (st : StE x H y H') (h : Fin P w x r s H Q a) : Fin P w y r s H' Q a := by
  cases a with
  | ok a m => exact fun b z H2 R p t => h b z H2 R p (st.trans t)
  | exc c v m => exact fun cls d z H2 R p t => h cls d z H2 R p (st.trans t)
  | bad => exact h
theorem Fin.imp {P P' : PP α β} {Q Q' : β → Hp → Prop} {a : R α} (h : Fin P w x r s H Q a) (hp : ∀ y H a b, P' y H a b → P y H a b) (hq : ∀ b H, Q b H → Q' b H) : Fin P' w x r s H Q' a := by
  cases a with
  | ok a m => exact fun b z H2 R p t => hq _ _ (h b z H2 R (hp _ _ _ _ p) t)
  | exc c v m => exact fun cls d z H2 R p t => h cls d z H2 R p t
  | bad => exact h
theorem Fin.ite {P : PP α β} {Q : β → Hp → Prop} {a : R α} {c : Prop} [Decidable c] (h : Fin P w x r s H Q (if c then a else .bad)) : c ∧ Fin P w x r s H Q a := by
  by_cases hc : c
  · rw [if_pos hc] at h
    exact ⟨hc, h⟩
  · rw [if_neg hc] at h
    exact h.elim
/-- one part, then what comes of it -/
theorem rd_bind {P : PP α β} {P' : PP γ δ} {f : Sem1 α} {g : α → Sto → R γ} {Q : δ → Hp → Prop} {K : β → Hp → Prop} (R : Rel x r m s H) (h : Fin P' w x r s H Q (bindR (f r m) g))
    (k : ∀ a m' b y H', Rel y r m' s H' → P y H' a b → StE x H y H' → Fin P' w y r s H' Q (g a m') → K b H') : rd P w f s H K := by
  refine ⟨x, r, m, R, ?_⟩
  cases e : f r m with
  | ok a m' =>
    rw [e] at h
    exact fun b y H' R' p st => k a m' b y H' R' p st (Fin.shift st h)
  | exc c v m' =>
    rw [e] at h
    exact h
  | bad =>
    rw [e] at h
    exact h
/-- the end: a value that is there already -/
theorem Fin.here {P : PP α β} {Q : β → Hp → Prop} {a : α} {b : β} (R : Rel x r m s H) (h : Fin P w x r s H Q (.ok a m)) (p : P x H a b) : Q b H := h b x H R p .refl
/-- the end: a new thing that will stand -/
theorem Fin.fresh {P : PP α V} {Q : VK} {a : α} {o : HO} (R : Rel x r m s H) (h : Fin P w x r s H Q (.ok a m)) (p : ∀ p, H p = none → P { x with F := upd x.F p o } (upd H p o) a (.ref p)) : ∀ p, H p = none → Q (.ref p) (upd H p o) :=
  fun q hq => h _ _ _ (R.new hq) (p q hq) (.new R hq)
theorem Reps.up {ds : List D} {vs : List V} {p : Addr} {o : HO} (R : Rel x r m s H) (hp : H p = none) (h : Reps x.F x.io ds vs) : Reps (upd x.F p o) x.io ds vs :=
  h.mono (StE.new (o := o) R hp).st.F (.refl _)
theorem Fin.list {Q : VK} {ds : List D} {vs : List V} (R : Rel x r m s H) (h : Fin PV w x r s H Q (.ok (.lst ds) m)) (q : Reps x.F x.io ds vs) : ∀ p, H p = none → Q (.ref p) (upd H p (.lst vs)) :=
  Fin.fresh R h fun p hp => .lst upd_same (q.up R hp)
theorem Fin.tuple {Q : VK} {ds : List D} {vs : List V} (R : Rel x r m s H) (h : Fin PV w x r s H Q (.ok (.tup ds) m)) (q : Reps x.F x.io ds vs) : ∀ p, H p = none → Q (.ref p) (upd H p (.tup vs)) :=
  Fin.fresh R h fun p hp => .tup upd_same (q.up R hp)
end

/-! ### weaker readings -/
theorem PE.imp {X : Cx} {e : Expr} {t t' : TE} (h : PE X e t) (k : ∀ s H Q, t' s H Q → t s H Q) : PE X e t' := ⟨fun pins s σ H Q I q => h.run pins s σ H Q I (k _ _ _ q)⟩
theorem PT.imp {X : Cx} {e : Expr} {t t' : TT} (h : PT X e t) (k : ∀ s H Q, t' s H Q → t s H Q) : PT X e t' := ⟨fun pins s σ H Q I q => h.run pins s σ H Q I (k _ _ _ q)⟩
theorem PW.imp {X : Cx} {e : Expr} {t t' : TT} (h : PW X e t) (k : ∀ s H Q, t' s H Q → t s H Q) : PW X e t' := ⟨fun wh pins s σ H Q I q => h.run wh pins s σ H Q I (k _ _ _ q)⟩
theorem PA.imp {X : Cx} {e : List Expr} {t t' : TA} (h : PA X e t) (k : ∀ s H Q, t' s H Q → t s H Q) : PA X e t' := ⟨fun pos pins s σ H Q I q => h.run pos pins s σ H Q I (k _ _ _ q)⟩
theorem PS.imp {X : Cx} {e : Stmt} {t t' : TS} (h : PS X e t) (k : ∀ D s H, t' D s H → t D s H) : PS X e t' := ⟨fun pins s σ H D I q => h.run pins s σ H D I (k _ _ _ q)⟩
theorem PSs.imp {X : Cx} {e : List Stmt} {t t' : TS} (h : PSs X e t) (k : ∀ D s H, t' D s H → t D s H) : PSs X e t' := ⟨fun pins s σ H D I q => h.run pins s σ H D I (k _ _ _ q)⟩
theorem PG.imp {X : Cx} {e : Expr} {t t' : TG} (h : PG X e t) (k : ∀ v s H Q, t' v s H Q → t v s H Q) : PG X e t' := ⟨fun pins s σ H v u Q I r q => h.run pins s σ H v u Q I r (k _ _ _ _ q)⟩
theorem PI.imp {X : Cx} {g e : Expr} {t t' : TI} (h : PI X g e t) (k : ∀ s H R, t' s H R → t s H R) : PI X g e t' := ⟨fun pins s σ H R I q => h.run pins s σ H R I (k _ _ _ q)⟩

/-- an expression that gives a value | that is looked at | a test | arguments -/
abbrev DE (X : Cx) (w : Wi) (e : Expr) (f : SE) : Prop := PE X e (rd PV w f)
abbrev DK (X : Cx) (w : Wi) (e : Expr) (f : SE) : Prop := PE X e (rd Pk w f)
abbrev DT (X : Cx) (w : Wi) (e : Expr) (f : SB) : Prop := PT X e (rd PB w f)
abbrev DW (X : Cx) (w : Wi) (e : Expr) (f : SB) : Prop := PW X e (rd PB w f)
abbrev DA (X : Cx) (w : Wi) (es : List Expr) (f : SL) : Prop := PA X es (rd PL w f)
abbrev DAk (X : Cx) (w : Wi) (es : List Expr) (f : SL) : Prop := PA X es (rd (fun x H ds vs => Pks x H ds vs) w f)
section
variable {X : Cx} {w : Wi} {e : Expr} {es : List Expr} {f : SE} {fl : SL}
theorem DE.k (h : DE X w e f) : DK X w e f := PE.imp h fun s H Q ⟨x, r, m, R, q⟩ => ⟨x, r, m, R, Fin.imp q (fun _ _ _ _ p => .inl p) fun _ _ z => z⟩
theorem DA.k (h : DA X w es fl) : DAk X w es fl := PA.imp h fun s H Q ⟨x, r, m, R, q⟩ => ⟨x, r, m, R, Fin.imp q (fun _ _ _ _ p => Pks.of p) fun _ _ z => z⟩
end
end Dl
/-! The data layer: names, constants, operators, comparisons, tests, displays, subscripts. -/
namespace Dl
open PySem PySem.Spec PyProof.Rows L2 TL

/-! ### names, constants -/
def sVar (i : Nat) : SE := fun r m => match r[i]? with
  | some (some (.val d)) => .ok d m
  | _ => .bad
def sPk (i : Nat) : SE := fun r m => match r[i]? with
  | some (some (.val d)) => .ok d m
  | some (some (.lst l)) => .ok (.lst l) m
  | _ => .bad
def sC (d : D) : SE := fun _ m => .ok d m
section
variable {X : Cx} {w : Wi} {e a b c : Expr} {pos : Pos}
theorem slot_at {x : Sx} {r : Env} {m : Sto} {s : L2.St} {H : Hp} (R : Rel x r m s H) {i : Nat} {c : Cell} (h : r[i]? = some (some c)) : ∃ v A0, s[i]? = some (some v) ∧ CellR x.F x.io H c v A0 ∧ ∀ b ∈ A0, b ∈ x.A1 := by
  have hi : i < r.length := (List.getElem?_eq_some_iff.mp h).1
  obtain ⟨A0, A', p, g, _, _⟩ := R.vars.at hi
  obtain ⟨v, e, q⟩ := g c h
  exact ⟨v, A0, e, q, fun b hb => p.mem_iff.mpr (List.mem_append_left _ hb)⟩
theorem de_var {i : Nat} (h : PE X e (tVar i)) : DE X w e (sVar i) := PE.imp h fun s H Q ⟨x, r, m, R, q⟩ => by
  unfold sVar at q
  split at q
  · rename_i d hd
    obtain ⟨v, A0, e1, q1, _⟩ := slot_at R hd
    cases q1 with
    | val rp => exact ⟨v, e1, q v x H R rp .refl⟩
  · exact q.elim
theorem dk_var {i : Nat} (h : PE X e (tVar i)) : DK X w e (sPk i) := PE.imp h fun s H Q ⟨x, r, m, R, q⟩ => by
  unfold sPk at q
  split at q
  · rename_i d hd
    obtain ⟨v, A0, e1, q1, _⟩ := slot_at R hd
    cases q1 with
    | val rp => exact ⟨v, e1, q v x H R (.inl rp) .refl⟩
  · rename_i l hd
    obtain ⟨v, A0, e1, q1, hA⟩ := slot_at R hd
    cases q1 with
    | @lst a ds vs ha rp => exact ⟨_, e1, q (.ref a) x H R (.inr ⟨_, vs, a, rfl, rfl, hA a (by simp), ha, rp⟩) .refl⟩
  · exact q.elim
theorem de_c {d : D} {v : V} (h : PE X e (tC v)) (hr : ∀ F io, Rep F io d v) : DE X w e (sC d) := PE.imp h fun s H Q ⟨x, r, m, R, q⟩ => q v x H R (hr _ _) .refl
theorem de_int {i : Int} {j : Nat} : DE X w (.Constant (.int i) j pos) (sC (.int i)) := de_c pe_int fun _ _ => .int i
theorem de_bl {b : Bool} {j : Nat} : DE X w (.Constant (.bool b) j pos) (sC (.bl b)) := de_c pe_bl fun _ _ => .bl b
theorem de_non {j : Nat} : DE X w (.Constant .none j pos) (sC .non) := de_c pe_non fun _ _ => .non
theorem de_str (l : List Nat) {x : Str} {j : Nat} (h : x = ⟨l.toArray⟩ := by decide +kernel) : DE X w (.Constant (.str x) j pos) (sC (.str l)) := de_c pe_str fun _ _ => by
  rw [h]
  exact .str l
/-- a module's text or number -/
theorem de_gstr (l : List Nat) {x y : Str} {t : Tok} (hg : Gl X x) (hm : X.mg x = some (.str y t)) (h : y = ⟨l.toArray⟩ := by decide +kernel) (hd : (x == ("__debug__" : Str)) = false := by decide) : DE X w (.Name x pos) (sC (.str l)) :=
  de_c (v := .str y) (pe_glob hg hm ⟨t, rfl⟩ hd) fun _ _ => by
    rw [h]
    exact .str l
theorem de_gint {i : Int} {x : Str} {t : Tok} (hg : Gl X x) (hm : X.mg x = some (.int i t)) (hd : (x == ("__debug__" : Str)) = false := by decide) : DE X w (.Name x pos) (sC (.int i)) := de_c (v := .int i) (pe_glob hg hm ⟨t, rfl⟩ hd) fun _ _ => .int i

/-! ### operators of two values -/
def OpD (w : Wi) (f : D → D → Sto → R D) (r : R2) : Prop := ∀ (x : Sx) (e : Env) (m : Sto) (s : L2.St) (H : Hp) (Q : VK) (da db : D) (va vb : V), Rel x e m s H → Pk x H da va → Pk x H db vb → Fin PV w x e s H Q (f da db m) → r va vb H Q
def sBin (f : D → D → Sto → R D) (a b : SE) : SE := fun r m => bindR (a r m) fun x m1 => bindR (b r m1) fun y m2 => f x y m2
theorem rd_bin {f : D → D → Sto → R D} {fa fb : SE} {r : R2} (h : OpD w f r) (s : L2.St) (H : Hp) (Q : VK) (q : rd PV w (sBin f fa fb) s H Q) : tOp r (rd Pk w fa) (rd Pk w fb) s H Q := by
  obtain ⟨x, e, m, R, q⟩ := q
  refine rd_bind R q fun da m1 va y H1 R1 p1 st1 q1 => ?_
  refine rd_bind R1 q1 fun db m2 vb z H2 R2 p2 st2 q2 => ?_
  exact h z e m2 s H2 Q da db va vb R2 (p1.stay R1 st2) p2 q2
theorem de_bin {op : Operator} {f : D → D → Sto → R D} {r : R2} {fa fb : SE} (ho : OpR X (binaryOp op) r) (h : OpD w f r) (ha : DK X w a fa) (hb : DK X w b fb) : DE X w (.BinOp a op b pos) (sBin f fa fb) :=
  PE.imp (pe_op ho ha hb) fun s H Q q => rd_bin h s H Q q
def LIM : Nat := 16777216
theorem lim_eq : LIM = sizeLine := sizeLine_eq.symm
def opAdd : D → D → Sto → R D
  | .int i, .int j, m => .ok (.int (i + j)) m
  | .str x, .str y, m => if x.length + y.length ≤ LIM then .ok (.str (x ++ y)) m else .bad
  | .lst x, .lst y, m => if x.length + y.length ≤ LIM then .ok (.lst (x ++ y)) m else .bad
  | .tup x, .tup y, m => if x.length + y.length ≤ LIM then .ok (.tup (x ++ y)) m else .bad
  | _, _, _ => .bad
theorem str_app (x y : List Nat) : (⟨x.toArray⟩ : Str) ++ (⟨y.toArray⟩ : Str) = ⟨(x ++ y).toArray⟩ := by
  have h : tl ((⟨x.toArray⟩ : Str) ++ (⟨y.toArray⟩ : Str)) = x ++ y := by rw [tl_append]
  exact ext_tl h
theorem str_len (x : List Nat) : (⟨x.toArray⟩ : Str).length = x.length := by simp [Str.length]
def rAddA (K : PySem.W.Frag) : R2 := fun x y H Q => (∃ i j, x = .int i ∧ y = .int j ∧ Q (.int (i + j)) H) ∨ (∃ i j, x = .str i ∧ y = .str j ∧ i.length + j.length ≤ sizeLine ∧ Q (.str (i ++ j)) H) ∨ rCat x y H Q ∨ rCatA K x y H Q
theorem op_addA : OpR X (binaryOp .Add) (rAddA X.K) := OpR.or op_add (OpR.or op_add_str (OpR.or op_cat op_catA))
theorem od_add (K : PySem.W.Frag) : OpD w opAdd (rAddA K) := by
  intro x e m s H Q da db va vb R pa pb h
  cases da <;> cases db <;> first
    | exact h.elim
    | skip
  · have ea := pa.int; have eb := pb.int
    subst ea eb
    exact .inl ⟨_, _, rfl, rfl, Fin.here R h (.int _)⟩
  · have ea := pa.str; have eb := pb.str
    subst ea eb
    obtain ⟨hz, h⟩ := Fin.ite h
    refine .inr (.inl ⟨_, _, rfl, rfl, ?_, ?_⟩)
    · rw [str_len, str_len, ← lim_eq]; exact hz
    · rw [str_app]
      exact Fin.here R h (.str _)
  · obtain ⟨a, vs, rfl, haF, ha, q⟩ := pa.tup R
    obtain ⟨b, us, rfl, hbF, hb, q'⟩ := pb.tup R
    obtain ⟨hz, h⟩ := Fin.ite h
    refine .inr (.inr (.inr ⟨a, b, vs, us, rfl, rfl, SqT.of ha, SqT.of hb, ?_, fun e => ?_, fun _ e => ?_, fun _ _ => ?_⟩))
    · rw [← q.length, ← q'.length, ← lim_eq]; exact hz
    · subst e
      cases q
      exact Fin.here R h (.tup hbF (by simpa using q'))
    · subst e
      cases q'
      exact Fin.here R h (.tup haF (by simpa using q))
    · exact Fin.tuple R h (q.append q')
  · obtain ⟨a, vs, rfl, ha, q⟩ := pa.lst R
    obtain ⟨b, us, rfl, hb, q'⟩ := pb.lst R
    obtain ⟨hz, h⟩ := Fin.ite h
    refine .inr (.inr (.inl ⟨a, b, vs, us, rfl, rfl, ha, hb, ?_, ?_⟩))
    · rw [← q.length, ← q'.length, ← lim_eq]; exact hz
    · exact Fin.list R h (q.append q')
theorem de_add {fa fb : SE} (ha : DK X w a fa) (hb : DK X w b fb) : DE X w (.BinOp a .Add b pos) (sBin opAdd fa fb) := de_bin op_addA (od_add _) ha hb

def opSub : D → D → Sto → R D
  | .int i, .int j, m => .ok (.int (i - j)) m
  | _, _, _ => .bad
theorem od_int {g : Int → Int → D} {f : D → D → Sto → R D} {r : Int → Int → Hp → VK → Prop} (hf : ∀ da db m, (∃ i j, da = .int i ∧ db = .int j) ∨ f da db m = .bad)
    (h : ∀ (x : Sx) (e : Env) (m : Sto) (s : L2.St) (H : Hp) (Q : VK) (i j : Int), Rel x e m s H → Fin PV w x e s H Q (f (.int i) (.int j) m) → r i j H Q) : OpD w f (fun x y H Q => ∃ i j, x = .int i ∧ y = .int j ∧ r i j H Q) := by
  intro x e m s H Q da db va vb R pa pb q
  rcases hf da db m with ⟨i, j, rfl, rfl⟩ | z
  · have ea := pa.int; have eb := pb.int
    subst ea eb
    exact ⟨i, j, rfl, rfl, h x e m s H Q i j R q⟩
  · rw [z] at q
    exact q.elim
theorem od_sub : OpD w opSub (rI0 fun i j => .int (i - j)) := od_int (g := fun _ _ => .non) (fun da db m => by cases da <;> cases db <;> first | exact .inr rfl | exact .inl ⟨_, _, rfl, rfl⟩) fun x e m s H Q i j R q => Fin.here R q (.int _)
theorem de_sub {fa fb : SE} (ha : DK X w a fa) (hb : DK X w b fb) : DE X w (.BinOp a .Sub b pos) (sBin opSub fa fb) := de_bin op_sub od_sub ha hb
def opMod : D → D → Sto → R D
  | .int i, .int j, m => if 0 < j then .ok (.int (i % j)) m else .bad
  | _, _, _ => .bad
theorem od_mod : OpD w opMod (rI (fun _ j => 0 < j) fun i j => .int (i % j)) := od_int (g := fun _ _ => .non) (fun da db m => by cases da <;> cases db <;> first | exact .inr rfl | exact .inl ⟨_, _, rfl, rfl⟩) fun x e m s H Q i j R q => by
  obtain ⟨hj, q⟩ := Fin.ite q
  exact ⟨hj, Fin.here R q (.int _)⟩
theorem de_mod {fa fb : SE} (ha : DK X w a fa) (hb : DK X w b fb) : DE X w (.BinOp a .Mod b pos) (sBin opMod fa fb) := de_bin op_mod od_mod ha hb
def opDiv : D → D → Sto → R D
  | .int i, .int j, m => if 0 < j ∧ j < 1073741824 then .ok (.int (i / j)) m else .bad
  | _, _, _ => .bad
theorem od_div : OpD w opDiv (rI CDiv fun i j => .int (i / j)) := od_int (g := fun _ _ => .non) (fun da db m => by cases da <;> cases db <;> first | exact .inr rfl | exact .inl ⟨_, _, rfl, rfl⟩) fun x e m s H Q i j R q => by
  obtain ⟨hj, q⟩ := Fin.ite q
  exact ⟨hj, Fin.here R q (.int _)⟩
theorem de_div {fa fb : SE} (ha : DK X w a fa) (hb : DK X w b fb) : DE X w (.BinOp a .FloorDiv b pos) (sBin opDiv fa fb) := de_bin op_fdiv od_div ha hb
def opPow : D → D → Sto → R D
  | .int i, .int j, m => if 0 ≤ j ∧ j ≤ 1000000 ∧ i.natAbs < 2 ^ 64 then .ok (.int (i ^ j.toNat)) m else .bad
  | _, _, _ => .bad
theorem od_pow : OpD w opPow (rI CPow fun i j => .int (i ^ j.toNat)) := od_int (g := fun _ _ => .non) (fun da db m => by cases da <;> cases db <;> first | exact .inr rfl | exact .inl ⟨_, _, rfl, rfl⟩) fun x e m s H Q i j R q => by
  obtain ⟨hj, q⟩ := Fin.ite q
  exact ⟨hj, Fin.here R q (.int _)⟩
theorem de_pow {fa fb : SE} (ha : DK X w a fa) (hb : DK X w b fb) : DE X w (.BinOp a .Pow b pos) (sBin opPow fa fb) := de_bin op_pow od_pow ha hb
end
end Dl
/-! The data layer: products. -/
namespace L2
open PySem PySem.Spec PyProof.Rows
theorem tuple_mulS (l : Addr) (items : Array Value) (n : Nat) (sl : Array (Option Value)) (dd : Option Addr) (u : Tok) :
    Meets (Builtin.«tuple.__mul__» ⟨[.ref l, .int 1 u], []⟩) (fun _ R s => s.heap.get? l = some { cls := .type "tuple", dict := dd, data := .seq items n, slots := sl } ∧ R (.ok (.ret (Value.ref l))) s) :=
  .of_wp fun prog w A R s h => by
    obtain ⟨hp, g, d, tk, os⟩ := s
    obtain ⟨hl, h⟩ := h
    have f1 := AutoSeq1.idx_int
    have c1 : (items.isEmpty || (1 : Int) == 1) = true := by cases items.isEmpty <;> rfl
    wp_walk using wpAny_loadPart' hl
    repeat (first
      | (refine wpAny_ite_false (decide_eq_false (by decide)) ?_; wp_walk using wpAny_loadPart' hl)
      | (refine wpAny_ite_true (decide_eq_true c1) ?_; wp_walk using wpAny_loadPart' hl))
    exact ⟨_, rfl, h⟩
theorem tuple_mulE (l : Addr) (items : Array Value) (n : Nat) (sl : Array (Option Value)) (dd : Option Addr) (x : Int) (u : Tok) (h0 : x ≤ 0) (h1 : -(2 ^ 63) ≤ x) (hi : items.isEmpty = false) :
    Meets (Builtin.«tuple.__mul__» ⟨[.ref l, .int x u], []⟩) (fun _ R s => s.heap.get? l = some { cls := .type "tuple", dict := dd, data := .seq items n, slots := sl } ∧
      R (.ok (.ret (Value.ref s.heap.objs.size))) { s with heap := s.heap.push { cls := Value.type "tuple", data := Data.seq #[] }, toks := s.toks }) :=
  .of_wp fun prog w A R s h => by
    obtain ⟨hp, g, d, tk, os⟩ := s
    obtain ⟨hl, h⟩ := h
    have f1 := AutoSeq1.idx_int
    have c0 : (decide (x < -(2 ^ 63)) || decide (x ≥ 2 ^ 63)) = false := by
      rw [decide_eq_false (by omega), decide_eq_false (by omega)] <;> rfl
    have c1 : (items.isEmpty || x == 1) = false := by
      rw [hi, Bool.false_or]
      exact beq_eq_false_iff_ne.mpr (by omega)
    have c2 : (decide (x ≤ 0) || items.isEmpty) = true := by
      rw [decide_eq_true h0] <;> rfl
    wp_walk using wpAny_loadPart' hl
    repeat (first
      | (refine wpAny_ite_false (decide_eq_false (by rw [c0]; exact Bool.false_ne_true)) ?_; wp_walk using wpAny_loadPart' hl)
      | (refine wpAny_ite_false (decide_eq_false (by rw [c1]; exact Bool.false_ne_true)) ?_; wp_walk using wpAny_loadPart' hl)
      | (refine wpAny_ite_true (decide_eq_true c2) ?_; wp_walk using wpAny_loadPart' hl))
    exact ⟨_, rfl, h⟩
def rRepZ (K : PySem.W.Frag) : R2 := fun x y H Q => ∃ l k xs, x = .ref l ∧ y = .int k ∧ SqT K H l xs ∧ xs ≠ [] ∧ ((k = 1 ∧ Q (.ref l) H) ∨ (k ≤ 0 ∧ -1000 ≤ k ∧ ∀ p, H p = none → Q (.ref p) (upd H p (.tup []))))
section
variable {X : Cx}
theorem op_repZ : OpR X (binaryOp .Mult) (rRepZ X.K) := by
  intro pins s σ H x y v u Q I rx ry h
  obtain ⟨l, k, xs, rfl, rfl, hT, hne, q⟩ := h
  cases rx
  obtain ⟨t, rfl⟩ := ry
  obtain ⟨its, r, ⟨⟨cls, dd, data, sl⟩, ho, hc, n, hd⟩, hs⟩ := I.tuple hT
  simp only at hc hd
  subst hc hd
  have hle : its.length = xs.length := r.length.symm
  have hn : its ≠ [] := fun e => hne (by
    rw [e] at hle
    exact List.eq_nil_of_length_eq_zero hle.symm)
  have hi : its.toArray.isEmpty = false := by
    cases its with
    | nil => exact absurd rfl hn
    | cons a b => rfl
  refine wpAny_binaryOp_repeat_ref (T := "tuple") (U := "int") (by decide) ⟨_, ho, rfl⟩ (fun s' => typeIs_int s' k t) noFill_tuple_mul F.fills_int_mul F.slot_int_rmul repeat_tuple F.slot_int_index.lookup
    (call_meets F.slot_int_rmul (typeIs_int s k t) F.entry_int_rmul (F.args_int_rmul_2 _ _) (int_rmul_tuple k t l its.toArray n dd sl)
      ⟨ho, rfl, ⟨_, ho, rfl⟩, ?_⟩)
  rcases q with ⟨rfl, q⟩ | ⟨h0, h1, q⟩
  · exact call_meets F.slot_tuple_mul ⟨_, ho, rfl⟩ F.entry_tuple_mul (F.args_tuple_mul_2 _ _) (tuple_mulS l its.toArray n sl dd t) ⟨ho, ⟨.ref l, H, I, rfl, q⟩⟩
  · refine call_meets F.slot_tuple_mul ⟨_, ho, rfl⟩ F.entry_tuple_mul (F.args_tuple_mul_2 _ _) (tuple_mulE l its.toArray n sl dd k t h0 (by omega) hi) ⟨ho, ?_⟩
    refine ⟨.ref s.heap.objs.size, _, I.laid (t' := s.toks) (o := .tup []) (fun b ob q => Heap.get?_push_of_some _ q) (Nat.le_refl _) ?_, rfl, q _ (I.hok.fresh (Nat.le_refl _))⟩
    exact ⟨Nat.zero_le _, [], .nil, IsTup.new _ _⟩
theorem op_mul_str : OpR X (binaryOp .Mult) (fun x y H Q => ∃ z n, x = .str z ∧ y = .int n ∧ MulOk z n ∧ Q (.str (Txt.mul z n)) H) := by
  intro pins s σ H x y v u Q I rx ry h
  obtain ⟨z, n, rfl, rfl, hz, q⟩ := h
  obtain ⟨t, rfl⟩ := rx
  obtain ⟨t', rfl⟩ := ry
  exact SB.mul hz fun t' k => ⟨.str (Txt.mul z n), H, I.tok _, ⟨_, rfl⟩, q⟩
end
end L2
namespace Dl
open PySem PySem.Spec PyProof.Rows L2 TL
def Sml (k : Int) (n : Nat) : Prop := -1000 ≤ k ∧ k ≤ 1000 ∧ n ≤ 1000
instance (k : Int) (n : Nat) : Decidable (Sml k n) := inferInstanceAs (Decidable (_ ∧ _ ∧ _))
def opMul : D → D → Sto → R D
  | .int i, .int j, m => if (-(2 ^ 64) < i ∧ i < 2 ^ 64) ∨ (-(2 ^ 64) < j ∧ j < 2 ^ 64) then .ok (.int (i * j)) m else .bad
  | .str x, .int k, m => if Sml k x.length then .ok (.str (List.replicate k.toNat x).flatten) m else .bad
  | .lst x, .int k, m => if Sml k x.length then .ok (.lst (List.replicate k.toNat x).flatten) m else .bad
  | .tup x, .int k, m => if x ≠ [] ∧ Sml k x.length then .ok (.tup (List.replicate k.toNat x).flatten) m else .bad
  | _, _, _ => .bad
def rMulA (K : PySem.W.Frag) : R2 := fun x y H Q => rI CMul (fun i j => .int (i * j)) x y H Q ∨ (∃ z n, x = .str z ∧ y = .int n ∧ MulOk z n ∧ Q (.str (Txt.mul z n)) H) ∨ rRep x y H Q ∨ rRepT K x y H Q ∨ rRepZ K x y H Q
theorem op_mulA {X : Cx} : OpR X (binaryOp .Mult) (rMulA X.K) := OpR.or op_mul (OpR.or op_mul_str (OpR.or op_rep (OpR.or op_repT op_repZ)))
theorem txt_mul (x : List Nat) (k : Int) : Txt.mul ⟨x.toArray⟩ k = ⟨((List.replicate k.toNat x).flatten).toArray⟩ := by
  unfold Txt.mul
  by_cases h1 : k < 1
  · rw [if_pos h1]
    have : k.toNat = 0 := by omega
    rw [this]
    rfl
  · rw [if_neg h1]
    by_cases h2 : ((k == 1 || (⟨x.toArray⟩ : Str).length == 0) = true)
    · rw [if_pos h2]
      rw [Bool.or_eq_true] at h2
      rcases h2 with h2 | h2
      · have : k = 1 := by simpa using h2
        subst this
        simp
      · have : x = [] := by simpa [Str.length] using h2
        subst this
        simp
    · rw [if_neg h2]
      have e : ∀ (n : Nat) (acc : List Nat), ((List.replicate n x.toArray).foldl (· ++ ·) acc.toArray) = (acc ++ (List.replicate n x).flatten).toArray := by
        intro n
        induction n with
        | zero => intro acc; simp
        | succ n ih =>
          intro acc
          rw [List.replicate_succ, List.foldl_cons, List.replicate_succ, List.flatten_cons]
          have : acc.toArray ++ x.toArray = (acc ++ x).toArray := by simp
          rw [this, ih, List.append_assoc]
      have := e k.toNat []
      simp only [List.nil_append] at this
      exact congrArg Str.mk this
theorem Reps.rep {F : Hp} {io : List Addr} {ds : List D} {vs : List V} (h : Reps F io ds vs) : ∀ n : Nat, Reps F io (List.replicate n ds).flatten (List.replicate n vs).flatten
  | 0 => .nil
  | n + 1 => by
    rw [List.replicate_succ, List.replicate_succ, List.flatten_cons, List.flatten_cons]
    exact h.append (Reps.rep h n)
section
variable {X : Cx} {w : Wi} {a b : Expr} {pos : Pos}
theorem od_mul (K : PySem.W.Frag) : OpD w opMul (rMulA K) := by
  intro x e m s H Q da db va vb R pa pb h
  cases da <;> cases db <;> first
    | exact h.elim
    | skip
  · have ea := pa.int; have eb := pb.int
    subst ea eb
    obtain ⟨hz, h⟩ := Fin.ite h
    exact .inl ⟨_, _, rfl, rfl, hz, Fin.here R h (.int _)⟩
  · rename_i z k
    have ea := pa.str; have eb := pb.int
    subst ea eb
    obtain ⟨⟨h1, h2, h3⟩, h⟩ := Fin.ite h
    refine .inr (.inl ⟨_, _, rfl, rfl, ?_, ?_⟩)
    · have hz : (⟨z.toArray⟩ : Str).length = z.length := str_len z
      refine ⟨?_, fun h4 h5 => ?_, fun h4 h5 => ?_⟩
      · rw [decide_eq_false (by omega), decide_eq_false (by omega)] <;> rfl
      · rw [hz]
        have : (9223372036854775807 : Int) / k ≥ 9223372036854775807 / 1000 := by
          refine Int.le_ediv_of_mul_le (by omega) ?_
          have : (9223372036854775807 : Int) / 1000 * k ≤ 9223372036854775807 / 1000 * 1000 := Int.mul_le_mul_of_nonneg_left (by omega) (by decide)
          have h9 : (9223372036854775807 : Int) / 1000 * 1000 ≤ 9223372036854775807 := by decide
          omega
        have e63 : (2 : Int) ^ 63 - 1 = 9223372036854775807 := by decide
        rw [e63]
        have h8 : (9223372036854775807 : Int) / 1000 > 1000 := by decide
        omega
      · rw [hz]
        unfold Builtin.Str.tooLong
        rw [sizeLine_eq]
        refine decide_eq_false ?_
        have a1 : z.length * k.toNat ≤ 1000 * 1000 := Nat.mul_le_mul h3 (by omega)
        omega
    · rw [txt_mul]
      exact Fin.here R h (.str _)
  · rename_i l k
    obtain ⟨a, vs, rfl, haF, ha, q⟩ := pa.tup R
    have eb := pb.int
    subst eb
    obtain ⟨⟨hne, h1, h2, h3⟩, h⟩ := Fin.ite h
    have hv : vs ≠ [] := fun z => by
      subst z
      cases q
      exact hne rfl
    have hl := q.length
    by_cases k1 : k ≤ 0
    · refine .inr (.inr (.inr (.inr ⟨a, k, vs, rfl, rfl, SqT.of ha, hv, .inr ⟨k1, h1, ?_⟩⟩)))
      have k0 : k.toNat = 0 := by omega
      rw [k0] at h
      exact Fin.tuple R h .nil
    · by_cases k2 : k = 1
      · subst k2
        refine .inr (.inr (.inr (.inr ⟨a, 1, vs, rfl, rfl, SqT.of ha, hv, .inl ⟨rfl, ?_⟩⟩)))
        exact Fin.here R h (.tup haF (by simpa using q))
      · refine .inr (.inr (.inr (.inl ⟨a, k, vs, rfl, rfl, SqT.of ha, hv, by omega, h2, by omega, ?_⟩)))
        exact Fin.tuple R h (q.rep _)
  · rename_i l k
    obtain ⟨a, vs, rfl, ha, q⟩ := pa.lst R
    have eb := pb.int
    subst eb
    obtain ⟨⟨h1, h2, h3⟩, h⟩ := Fin.ite h
    have hl := q.length
    refine .inr (.inr (.inl ⟨a, k, vs, rfl, rfl, ha, by omega, by omega, ?_, ?_⟩))
    · have a1 : vs.length * k.toNat ≤ 1000 * 1000 := Nat.mul_le_mul (by omega) (by omega)
      rw [sizeLine_eq]
      omega
    · exact Fin.list R h (q.rep _)
theorem de_mul {fa fb : SE} (ha : DK X w a fa) (hb : DK X w b fb) : DE X w (.BinOp a .Mult b pos) (sBin opMul fa fb) := de_bin op_mulA (od_mul _) ha hb
end
end Dl
/-! The data layer: comparisons, tests. -/
namespace Dl
open PySem PySem.Spec PyProof.Rows L2 TL

/-! ### data -/
mutual
def toPy : D → PyData
  | .non => .none
  | .bl b => .bool b
  | .int i => .int i
  | .str s => .str ⟨s.toArray⟩
  | .tup l => .tuple (toPys l)
  | .lst l => .list (toPys l)
  | .dct _ _ => .none
  | .obj _ => .none
  | .cst _ => .none
def toPys : List D → List PyData
  | [] => []
  | d :: l => toPy d :: toPys l
end
def eqD (a b : D) : Bool := PyData.eqv (toPy a) (toPy b)
def eqDs (a b : List D) : Bool := PyData.eqvAll (toPys a) (toPys b)
@[simp] theorem eqD_int (i j : Int) : eqD (.int i) (.int j) = (i == j) := rfl
@[simp] theorem eqD_bl (i j : Bool) : eqD (.bl i) (.bl j) = (i == j) := rfl
@[simp] theorem eqD_str (i j : List Nat) : eqD (.str i) (.str j) = (i == j) := by
  show ((⟨i.toArray⟩ : Str) == ⟨j.toArray⟩) = _
  rw [Bool.eq_iff_iff]
  simp
@[simp] theorem eqD_tup (i j : List D) : eqD (.tup i) (.tup j) = eqDs i j := rfl
@[simp] theorem eqD_lst (i j : List D) : eqD (.lst i) (.lst j) = eqDs i j := rfl
@[simp] theorem eqD_non : eqD .non .non = true := rfl
@[simp] theorem eqDs_nil : eqDs [] [] = true := rfl
@[simp] theorem eqDs_cons (a b : D) (r s : List D) : eqDs (a :: r) (b :: s) = (eqD a b && eqDs r s) := rfl
@[simp] theorem eqDs_nc (b : D) (s : List D) : eqDs [] (b :: s) = false := rfl
@[simp] theorem eqDs_cn (b : D) (s : List D) : eqDs (b :: s) [] = false := rfl
theorem eqDs_map {α : Type} [BEq α] [LawfulBEq α] {f : α → D} (h : ∀ a b, eqD (f a) (f b) = (a == b)) : ∀ l m : List α, eqDs (l.map f) (m.map f) = (l == m)
  | [], [] => rfl
  | [], _ :: _ => rfl
  | _ :: _, [] => rfl
  | a :: l, b :: m => by
    rw [List.map_cons, List.map_cons, eqDs_cons, h, eqDs_map h l m]
    rfl
/-- plain data, nested to a depth -/
def okN : Nat → D → Bool
  | _, .non => true
  | _, .bl _ => true
  | _, .int _ => true
  | _, .str s => s.all (· < 1114112)
  | n + 1, .tup l => l.all (okN n)
  | n + 1, .lst l => l.all (okN n)
  | _, _ => false
@[simp] theorem okN_non (n : Nat) : okN n .non = true := by cases n <;> rfl
@[simp] theorem okN_bl (n : Nat) (b : Bool) : okN n (.bl b) = true := by cases n <;> rfl
@[simp] theorem okN_int (n : Nat) (i : Int) : okN n (.int i) = true := by cases n <;> rfl
@[simp] theorem okN_str (n : Nat) (s : List Nat) : okN n (.str s) = s.all (· < 1114112) := by cases n <;> rfl
@[simp] theorem okN_tup (n : Nat) (l : List D) : okN (n + 1) (.tup l) = l.all (okN n) := rfl
@[simp] theorem okN_lst (n : Nat) (l : List D) : okN (n + 1) (.lst l) = l.all (okN n) := rfl
theorem okN_py : ∀ (n : Nat) (d : D), okN n d = true → (toPy d).canLay0 = true ∧ (toPy d).depth ≤ n := by
  have str : ∀ (n : Nat) (s : List Nat), s.all (· < 1114112) = true → (toPy (.str s)).canLay0 = true ∧ (toPy (.str s)).depth ≤ n := fun n s h => by
    refine ⟨?_, Nat.zero_le _⟩
    show PyData.strOk ⟨s.toArray⟩ = true
    unfold PyData.strOk
    simpa using h
  have lst : ∀ (n : Nat), (∀ d, okN n d = true → (toPy d).canLay0 = true ∧ (toPy d).depth ≤ n) → ∀ l : List D, l.all (okN n) = true → PyData.canLayAll0 (toPys l) = true ∧ PyData.depthAll (toPys l) ≤ n := by
    intro n ih l
    induction l with
    | nil => exact fun _ => ⟨rfl, Nat.zero_le _⟩
    | cons d l il =>
      intro h
      rw [List.all_cons, Bool.and_eq_true] at h
      obtain ⟨a1, a2⟩ := ih d h.1
      obtain ⟨b1, b2⟩ := il h.2
      refine ⟨?_, ?_⟩
      · show (PyData.canLay0 (toPy d) && PyData.canLayAll0 (toPys l)) = true
        rw [a1, b1]
        rfl
      · show max (PyData.depth (toPy d)) (PyData.depthAll (toPys l)) ≤ n
        omega
  intro n
  induction n with
  | zero =>
    intro d h
    cases d with
    | non => exact ⟨rfl, Nat.le_refl _⟩
    | bl b => exact ⟨rfl, Nat.le_refl _⟩
    | int i => exact ⟨rfl, Nat.le_refl _⟩
    | str s => exact str 0 s h
    | tup l => exact absurd h Bool.false_ne_true
    | lst l => exact absurd h Bool.false_ne_true
    | dct k v => exact absurd h Bool.false_ne_true
    | obj k => exact absurd h Bool.false_ne_true
    | cst k => exact absurd h Bool.false_ne_true
  | succ n ih =>
    intro d h
    cases d with
    | non => exact ⟨rfl, Nat.zero_le _⟩
    | bl b => exact ⟨rfl, Nat.zero_le _⟩
    | int i => exact ⟨rfl, Nat.zero_le _⟩
    | str s => exact str _ s h
    | tup l =>
      obtain ⟨a1, a2⟩ := lst n ih l h
      exact ⟨a1, Nat.succ_le_succ a2⟩
    | lst l =>
      obtain ⟨a1, a2⟩ := lst n ih l h
      exact ⟨a1, Nat.succ_le_succ a2⟩
    | dct k v => exact absurd h Bool.false_ne_true
    | obj k => exact absurd h Bool.false_ne_true
    | cst k => exact absurd h Bool.false_ne_true
theorem okN_shaped {d : D} (h : okN 60 d = true) : SeqAt.shaped (toPy d) = true := by
  obtain ⟨a, b⟩ := okN_py 60 d h
  unfold SeqAt.shaped
  rw [a, decide_eq_true (by omega)]
  rfl
theorem rep_dp {K : PySem.W.Frag} {F H : Hp} {io : List Addr} (hs : Sub F H) : ∀ (n : Nat) (d : D) (v : V), okN n d = true → Rep F io d v → Dp K H v (toPy d) := by
  have all : ∀ (n : Nat), (∀ d v, okN n d = true → Rep F io d v → Dp K H v (toPy d)) → ∀ (l : List D) (vs : List V), l.all (okN n) = true → Reps F io l vs → DpAll K H vs (toPys l) := by
    intro n ih l
    induction l with
    | nil =>
      intro vs _ q
      cases q
      exact .nil
    | cons d l il =>
      intro vs h q
      rw [List.all_cons, Bool.and_eq_true] at h
      cases q with
      | cons r t => exact .cons (ih _ _ h.1 r) (il _ h.2 t)
  intro n
  induction n with
  | zero =>
    intro d v h r
    cases r with
    | non => exact .non
    | bl b => exact .bl b
    | int i => exact .int i
    | str s => exact .str _
    | _ => exact absurd h Bool.false_ne_true
  | succ n ih =>
    intro d v h r
    cases r with
    | non => exact .non
    | bl b => exact .bl b
    | int i => exact .int i
    | str s => exact .str _
    | tup e q => exact .tup (SqT.of (hs _ _ e)) (all n ih _ _ h q)
    | lst e q => exact .lst (SqL.of (hs _ _ e)) (all n ih _ _ h q)
    | obj e => exact absurd h Bool.false_ne_true
    | cst k => exact absurd h Bool.false_ne_true
theorem reps_dp {K : PySem.W.Frag} {F H : Hp} {io : List Addr} (hs : Sub F H) (n : Nat) : ∀ (l : List D) (vs : List V), l.all (okN n) = true → Reps F io l vs → DpAll K H vs (toPys l)
  | [], _, _, .nil => .nil
  | d :: l, _, h, .cons r t => by
    rw [List.all_cons, Bool.and_eq_true] at h
    exact .cons (rep_dp hs n _ _ h.1 r) (reps_dp hs n l _ h.2 t)
theorem Pk.dp {K : PySem.W.Frag} {x : Sx} {r : Env} {m : Sto} {s : L2.St} {H : Hp} {d : D} {v : V} (h : Pk x H d v) (R : Rel x r m s H) (o : okN 60 d = true) : Dp K H v (toPy d) := by
  rcases h with h | ⟨ds, vs, a, rfl, rfl, ha, e, q⟩
  · exact rep_dp R.sub 60 d v o h
  · exact .lst (SqL.of e) (reps_dp R.sub 59 _ _ o q)

section
variable {X : Cx} {w : Wi} {a b c e : Expr} {rest : List Expr} {pos : Pos} {fa fb fc : SE}
/-! ### comparisons -/
theorem de_cmp {op : CmpOp} {f : D → D → Sto → R D} {r : R2} (ho : OpR X (compareOp op) r) (h : OpD w f r) (ha : DK X w a fa) (hb : DK X w b fb) (hm : behindInMarks op b = false) : DE X w (.Compare a [op] [b] pos) (sBin f fa fb) :=
  PE.imp (pe_cmpR ho ha hb hm) fun s H Q q => rd_bin h s H Q q
/-- a value as a test -/
def sB (f : SE) : SB := fun r m => bindR (f r m) fun d m => match d with
  | .bl b => .ok b m
  | _ => .bad
theorem fin_sB {x : Sx} {r : Env} {s : L2.St} {H : Hp} {Q : Bool → Hp → Prop} {t : R D} (h : Fin PB w x r s H Q (bindR t fun d m => match d with | .bl b => .ok b m | _ => .bad)) : Fin PV w x r s H (fun v H' => ∃ c, v = .bl c ∧ Q c H') t := by
  cases t with
  | ok d m =>
    cases d with
    | bl b =>
      intro v y H' R p st
      cases p
      exact ⟨b, rfl, h b y H' R rfl st⟩
    | _ => exact h.elim
  | exc c v m => exact h
  | bad => exact h
theorem dt_cmp {op : CmpOp} {f : D → D → Sto → R D} {r : R2} (ho : OpR X (compareOp op) r) (h : OpD w f r) (ha : DK X w a fa) (hb : DK X w b fb) (hm : behindInMarks op b = false) : DT X w (.Compare a [op] [b] pos) (sB (sBin f fa fb)) :=
  PT.imp (pt_cmpR ho ha hb hm) fun s H Q ⟨x, e, m, R, q⟩ => rd_bin h s H _ ⟨x, e, m, R, fin_sB q⟩
theorem dt_val {f : SE} (h : DE X w e f) (he : ∀ whole, isTrue e X.env whole = (do let v ← whole; standAt e.pos; holding [v] (truthy v)) := by intro _; rfl) : DT X w e (sB f) :=
  PT.imp (pt_val h he) fun s H Q ⟨x, r, m, R, q⟩ => ⟨x, r, m, R, fin_sB q⟩
def opLt : D → D → Sto → R D
  | .int i, .int j, m => .ok (.bl (decide (i < j))) m
  | _, _, _ => .bad
def opLe : D → D → Sto → R D
  | .int i, .int j, m => .ok (.bl (decide (i ≤ j))) m
  | _, _, _ => .bad
def opGt : D → D → Sto → R D
  | .int i, .int j, m => .ok (.bl (decide (j < i))) m
  | _, _, _ => .bad
def opGe : D → D → Sto → R D
  | .int i, .int j, m => .ok (.bl (decide (j ≤ i))) m
  | _, _, _ => .bad
theorem od_lt : OpD w opLt (rI0 fun i j => .bl (decide (i < j))) := od_int (g := fun _ _ => .non) (fun da db m => by cases da <;> cases db <;> first | exact .inr rfl | exact .inl ⟨_, _, rfl, rfl⟩) fun x e m s H Q i j R q => Fin.here R q (.bl _)
theorem od_le : OpD w opLe (rI0 fun i j => .bl (decide (i ≤ j))) := od_int (g := fun _ _ => .non) (fun da db m => by cases da <;> cases db <;> first | exact .inr rfl | exact .inl ⟨_, _, rfl, rfl⟩) fun x e m s H Q i j R q => Fin.here R q (.bl _)
theorem od_gt : OpD w opGt (rI0 fun i j => .bl (decide (j < i))) := od_int (g := fun _ _ => .non) (fun da db m => by cases da <;> cases db <;> first | exact .inr rfl | exact .inl ⟨_, _, rfl, rfl⟩) fun x e m s H Q i j R q => Fin.here R q (.bl _)
theorem od_ge : OpD w opGe (rI0 fun i j => .bl (decide (j ≤ i))) := od_int (g := fun _ _ => .non) (fun da db m => by cases da <;> cases db <;> first | exact .inr rfl | exact .inl ⟨_, _, rfl, rfl⟩) fun x e m s H Q i j R q => Fin.here R q (.bl _)
def opEq (a b : D) (m : Sto) : R D := if okN 60 a = true ∧ okN 60 b = true then .ok (.bl (eqD a b)) m else .bad
def opNe (a b : D) (m : Sto) : R D := if okN 60 a = true ∧ okN 60 b = true then .ok (.bl (!eqD a b)) m else .bad
theorem od_eq (K : PySem.W.Frag) : OpD w opEq (rEqD K) := by
  intro x e m s H Q da db va vb R pa pb h
  obtain ⟨⟨h1, h2⟩, h⟩ := Fin.ite h
  exact ⟨toPy da, toPy db, pa.dp R h1, pb.dp R h2, okN_shaped h1, okN_shaped h2, Fin.here R h (.bl _)⟩
theorem od_ne (K : PySem.W.Frag) : OpD w opNe (rNeD K) := by
  intro x e m s H Q da db va vb R pa pb h
  obtain ⟨⟨h1, h2⟩, h⟩ := Fin.ite h
  exact ⟨toPy da, toPy db, pa.dp R h1, pb.dp R h2, okN_shaped h1, okN_shaped h2, Fin.here R h (.bl _)⟩
/-- in, not in -/
def flatD : D → Bool
  | .non => true
  | .bl _ => true
  | .int _ => true
  | .str _ => true
  | _ => false
def inD (d : D) : D → Option Bool
  | .str z => (match d with
    | .str [c] => some (decide (c ∈ z))
    | _ => none)
  | .tup l => if flatD d = true ∧ l.all flatD = true then some (l.any fun y => eqD y d) else none
  | .lst l => if flatD d = true ∧ l.all flatD = true then some (l.any fun y => eqD y d) else none
  | _ => none
def opIn (a b : D) (m : Sto) : R D := ofO ((inD a b).map D.bl) m
def opNin (a b : D) (m : Sto) : R D := ofO ((inD a b).map fun k => D.bl (!k)) m
theorem flat_rep {F : Hp} {io : List Addr} {d : D} {v : V} (h : Rep F io d v) (f : flatD d = true) : flatV v = true ∧ (∀ d', flatD d' = true → ∀ v', Rep F io d' v' → eqV v v' = eqD d d') := by
  cases h with
  | non =>
    refine ⟨rfl, fun d' f' v' r => ?_⟩
    cases r <;> first | rfl | exact absurd f' Bool.false_ne_true
  | bl b =>
    refine ⟨rfl, fun d' f' v' r => ?_⟩
    cases r <;> first | rfl | exact absurd f' Bool.false_ne_true
  | int b =>
    refine ⟨rfl, fun d' f' v' r => ?_⟩
    cases r <;> first | rfl | exact absurd f' Bool.false_ne_true
  | str b =>
    refine ⟨rfl, fun d' f' v' r => ?_⟩
    cases r <;> first | rfl | exact absurd f' Bool.false_ne_true
  | _ => exact absurd f Bool.false_ne_true
theorem flat_reps {F : Hp} {io : List Addr} {d : D} {v : V} (r : Rep F io d v) (fd : flatD d = true) : ∀ {l : List D} {vs : List V}, Reps F io l vs → l.all flatD = true → vs.all flatV = true ∧ inV v vs = l.any fun y => eqD y d
  | _, _, .nil, _ => ⟨rfl, rfl⟩
  | d' :: l, v' :: vs, .cons r' t, f => by
    rw [List.all_cons, Bool.and_eq_true] at f
    obtain ⟨a1, a2⟩ := flat_rep r' f.1
    obtain ⟨b1, b2⟩ := flat_reps r fd t f.2
    refine ⟨by rw [List.all_cons, a1, b1]; rfl, ?_⟩
    show (eqV v' v || inV v vs) = _
    rw [a2 d fd v r, b2, List.any_cons]
def rInA (K : PySem.W.Frag) (neg : Bool) : R2 := fun x y H Q => (∃ (c : Nat) (z : Str), x = .str ⟨#[c]⟩ ∧ y = .str z ∧ Q (.bl (if neg then !decide (c ∈ z.cps.toList) else decide (c ∈ z.cps.toList))) H) ∨ rIn K neg x y H Q
theorem op_inA : OpR X (compareOp .In) (rInA X.K false) := OpR.or op_in_sign op_in_seq
theorem op_ninA : OpR X (compareOp .NotIn) (rInA X.K true) := OpR.or op_notIn_sign op_notIn_seq
theorem Pk.flat {x : Sx} {H : Hp} {d : D} {v : V} (h : Pk x H d v) (f : flatD d = true) : Rep x.F x.io d v := by
  rcases h with h | ⟨ds, vs, a, rfl, rfl, ha, e, q⟩
  · exact h
  · exact absurd f Bool.false_ne_true
theorem od_inA (K : PySem.W.Frag) (neg : Bool) : OpD w (fun a b m => ofO ((inD a b).map fun k => D.bl (if neg then !k else k)) m) (rInA K neg) := by
  intro x e m s H Q da db va vb R pa pb h
  cases db with
  | str z =>
    have eb := pb.str
    subst eb
    cases da with
    | str l =>
      have ea := pa.str
      subst ea
      match l, h with
      | [c], h => exact .inl ⟨c, _, rfl, rfl, Fin.here R h (.bl _)⟩
      | [], h => exact h.elim
      | _ :: _ :: _, h => exact h.elim
    | _ => exact h.elim
  | tup l =>
    obtain ⟨p, vs, rfl, _, hp, q⟩ := pb.tup R
    by_cases hc : flatD da = true ∧ l.all flatD = true
    · have e1 : inD da (.tup l) = some (l.any fun y => eqD y da) := if_pos hc
      dsimp only at h
      rw [e1] at h
      obtain ⟨b1, b2⟩ := flat_reps (pa.flat hc.1) hc.1 q hc.2
      refine .inr ⟨p, vs, rfl, .inr (SqT.of hp), (flat_rep (pa.flat hc.1) hc.1).1, b1, ?_⟩
      rw [b2]
      exact Fin.here R h (.bl _)
    · have e1 : inD da (.tup l) = none := if_neg hc
      dsimp only at h
      rw [e1] at h
      exact h.elim
  | lst l =>
    obtain ⟨p, vs, rfl, hp, q⟩ := pb.lst R
    by_cases hc : flatD da = true ∧ l.all flatD = true
    · have e1 : inD da (.lst l) = some (l.any fun y => eqD y da) := if_pos hc
      dsimp only at h
      rw [e1] at h
      obtain ⟨b1, b2⟩ := flat_reps (pa.flat hc.1) hc.1 q hc.2
      refine .inr ⟨p, vs, rfl, .inl (SqL.of hp), (flat_rep (pa.flat hc.1) hc.1).1, b1, ?_⟩
      rw [b2]
      exact Fin.here R h (.bl _)
    · have e1 : inD da (.lst l) = none := if_neg hc
      dsimp only at h
      rw [e1] at h
      exact h.elim
  | _ => exact h.elim
theorem od_in (K : PySem.W.Frag) : OpD w opIn (rInA K false) := od_inA K false
theorem od_nin (K : PySem.W.Frag) : OpD w opNin (rInA K true) := od_inA K true
/-- is None -/
def isNonD : D → Option Bool
  | .non => some true
  | .cst _ => none
  | _ => some false
def opIs : D → D → Sto → R D
  | a, .non, m => ofO ((isNonD a).map D.bl) m
  | _, _, _ => .bad
def opIsn : D → D → Sto → R D
  | a, .non, m => ofO ((isNonD a).map fun k => D.bl (!k)) m
  | _, _, _ => .bad
theorem Pk.isNon {x : Sx} {H : Hp} {d : D} {v : V} (h : Pk x H d v) {k : Bool} (e : isNonD d = some k) : decide (v = .non) = k := by
  rcases h with h | ⟨ds, vs, a, rfl, rfl, ha, _, q⟩
  · cases h <;> first | (cases e; done) | (cases e; simp)
  · cases e
    simp
theorem od_is : OpD w opIs (fun x y H Q => y = .non ∧ Q (.bl (decide (x = .non))) H) := by
  intro x e m s H Q da db va vb R pa pb h
  cases db with
  | non =>
    have eb := pb.non
    refine ⟨eb, ?_⟩
    have h : Fin PV w x e s H Q (ofO ((isNonD da).map D.bl) m) := h
    cases ek : isNonD da with
    | none =>
      rw [ek] at h
      exact h.elim
    | some k =>
      rw [ek] at h
      rw [pa.isNon ek]
      exact Fin.here R h (.bl _)
  | _ => exact h.elim
theorem od_isn : OpD w opIsn (fun x y H Q => y = .non ∧ Q (.bl (!decide (x = .non))) H) := by
  intro x e m s H Q da db va vb R pa pb h
  cases db with
  | non =>
    have eb := pb.non
    refine ⟨eb, ?_⟩
    have h : Fin PV w x e s H Q (ofO ((isNonD da).map fun k => D.bl (!k)) m) := h
    cases ek : isNonD da with
    | none =>
      rw [ek] at h
      exact h.elim
    | some k =>
      rw [ek] at h
      rw [pa.isNon ek]
      exact Fin.here R h (.bl _)
  | _ => exact h.elim

/-! ### and, or, not -/
def sAnd (t u : SB) : SB := fun r m => bindR (t r m) fun b m => if b = true then u r m else .ok false m
def sOr (t u : SB) : SB := fun r m => bindR (t r m) fun b m => if b = true then .ok true m else u r m
def sNot (t : SB) : SB := fun r m => bindR (t r m) fun b m => .ok (!b) m
variable {ta tb tc : SB}
theorem dw_and1 (h : DT X w a ta) : DW X w (.BoolOp .And [a] pos) ta := pw_and1 h
theorem dw_or1 (h : DT X w a ta) : DW X w (.BoolOp .Or [a] pos) ta := pw_or1 h
theorem dw_and (ha : DT X w a ta) (hb : DW X w (.BoolOp .And (b :: rest) pos) tb) : DW X w (.BoolOp .And (a :: b :: rest) pos) (sAnd ta tb) :=
  PW.imp (pw_and ha hb) fun s H Q ⟨x, r, m, R, q⟩ => by
    refine rd_bind R q fun k m1 v y H1 R1 p1 st1 q1 => ?_
    cases p1
    cases k with
    | true =>
      rw [if_pos rfl] at q1 ⊢
      exact ⟨y, r, m1, R1, q1⟩
    | false =>
      rw [if_neg Bool.false_ne_true] at q1 ⊢
      exact Fin.here R1 q1 rfl
theorem dw_or (ha : DT X w a ta) (hb : DW X w (.BoolOp .Or (b :: rest) pos) tb) : DW X w (.BoolOp .Or (a :: b :: rest) pos) (sOr ta tb) :=
  PW.imp (pw_or ha hb) fun s H Q ⟨x, r, m, R, q⟩ => by
    refine rd_bind R q fun k m1 v y H1 R1 p1 st1 q1 => ?_
    cases p1
    cases k with
    | true =>
      rw [if_pos rfl] at q1 ⊢
      exact Fin.here R1 q1 rfl
    | false =>
      rw [if_neg Bool.false_ne_true] at q1 ⊢
      exact ⟨y, r, m1, R1, q1⟩
theorem dt_w (h : DW X w e ta) : DT X w e ta := PW.pt h
theorem dt_not (ha : DT X w a ta) : DT X w (.UnaryOp .Not a pos) (sNot ta) :=
  PT.imp (pt_not ha) fun s H Q ⟨x, r, m, R, q⟩ => by
    refine rd_bind R q fun k m1 v y H1 R1 p1 st1 q1 => ?_
    cases p1
    exact Fin.here R1 q1 rfl
/-- as values -/
def sAndV (fa fb : SE) : SE := fun r m => bindR (sB fa r m) fun b m => if b = true then fb r m else .ok (.bl false) m
def sOrV (fa fb : SE) : SE := fun r m => bindR (sB fa r m) fun b m => if b = true then .ok (.bl true) m else fb r m
def sNotV (fa : SE) : SE := fun r m => bindR (sB fa r m) fun b m => .ok (.bl (!b)) m
theorem rd_bindB {f : SE} {g : Bool → Sto → R D} {x : Sx} {r : Env} {m : Sto} {s : L2.St} {H : Hp} {Q : VK} {K : V → Hp → Prop} (R : Rel x r m s H) (h : Fin PV w x r s H Q (bindR (sB f r m) g))
    (k : ∀ c m' y H', Rel y r m' s H' → StE x H y H' → Fin PV w y r s H' Q (g c m') → K (.bl c) H') : rd PV w f s H K := by
  have h' : Fin PV w x r s H Q (bindR (f r m) fun d m => bindR (match d with | .bl b => .ok b m | _ => .bad) g) := by
    unfold sB at h
    cases e : f r m with
    | ok d m' =>
      rw [e] at h
      exact h
    | exc c v m' =>
      rw [e] at h
      exact h
    | bad =>
      rw [e] at h
      exact h
  refine rd_bind R h' fun d m1 v y H1 R1 p1 st1 q1 => ?_
  cases d with
  | bl c =>
    cases p1
    exact k c m1 y H1 R1 st1 q1
  | _ => exact q1.elim
theorem de_one {op} {f : SE} (h : DE X w a f) : DE X w (.BoolOp op [a] pos) f := pe_one h
theorem de_and (ha : DE X w a fa) (hb : DE X w (.BoolOp .And (b :: rest) pos) fb) : DE X w (.BoolOp .And (a :: b :: rest) pos) (sAndV fa fb) :=
  PE.imp (pe_and ha hb) fun s H Q ⟨x, r, m, R, q⟩ => by
    refine rd_bindB R q fun c m1 y H1 R1 st1 q1 => ⟨c, rfl, ?_⟩
    cases c with
    | true =>
      rw [if_pos rfl] at q1 ⊢
      exact ⟨y, r, m1, R1, q1⟩
    | false =>
      rw [if_neg Bool.false_ne_true] at q1 ⊢
      exact Fin.here R1 q1 (.bl _)
theorem de_or (ha : DE X w a fa) (hb : DE X w (.BoolOp .Or (b :: rest) pos) fb) : DE X w (.BoolOp .Or (a :: b :: rest) pos) (sOrV fa fb) :=
  PE.imp (pe_or ha hb) fun s H Q ⟨x, r, m, R, q⟩ => by
    refine rd_bindB R q fun c m1 y H1 R1 st1 q1 => ⟨c, rfl, ?_⟩
    cases c with
    | true =>
      rw [if_pos rfl] at q1 ⊢
      exact Fin.here R1 q1 (.bl _)
    | false =>
      rw [if_neg Bool.false_ne_true] at q1 ⊢
      exact ⟨y, r, m1, R1, q1⟩
theorem de_not (ha : DE X w a fa) : DE X w (.UnaryOp .Not a pos) (sNotV fa) :=
  PE.imp (pe_not ha) fun s H Q ⟨x, r, m, R, q⟩ => by
    refine rd_bindB R q fun c m1 y H1 R1 st1 q1 => ⟨c, rfl, ?_⟩
    exact Fin.here R1 q1 (.bl _)
/-- a if t else b -/
def sIf (t : SB) (fa fb : SE) : SE := fun r m => bindR (t r m) fun b m => if b = true then fa r m else fb r m
theorem de_if (hc : DT X w c tc) (ha : DE X w a fa) (hb : DE X w b fb) : DE X w (.IfExp c a b pos) (sIf tc fa fb) :=
  PE.imp (pe_ifExp hc ha hb) fun s H Q ⟨x, r, m, R, q⟩ => by
    refine rd_bind R q fun k m1 v y H1 R1 p1 st1 q1 => ?_
    cases p1
    cases k with
    | true =>
      rw [if_pos rfl] at q1 ⊢
      exact ⟨y, r, m1, R1, q1⟩
    | false =>
      rw [if_neg Bool.false_ne_true] at q1 ⊢
      exact ⟨y, r, m1, R1, q1⟩
/-- a op b op' c -/
def sChain (f g : D → D → Sto → R D) (fa fb fc : SE) : SE := fun r m => bindR (fa r m) fun x m => bindR (fb r m) fun y m => bindR (f x y m) fun k m => match k with
  | .bl true => bindR (fc r m) fun z m => g y z m
  | .bl false => .ok (.bl false) m
  | _ => .bad
/-- a comparison that makes nothing: its answer at once -/
def CmD (f : D → D → Sto → R D) (r : R2) : Prop := ∀ (x : Sx) (e : Env) (m : Sto) (s : L2.St) (H : Hp) (da db : D) (va vb : V), Rel x e m s H → Pk x H da va → Pk x H db vb → (f da db m = .bad) ∨ ∃ k, f da db m = .ok (.bl k) m ∧ ∀ Q : VK, Q (.bl k) H → r va vb H Q
theorem cm_int {f : D → D → Sto → R D} {g : Int → Int → Bool} (h1 : ∀ i j m, f (.int i) (.int j) m = .ok (.bl (g i j)) m) (h2 : ∀ da db m, (∃ i j, da = .int i ∧ db = .int j) ∨ f da db m = .bad) : CmD f (rI0 fun i j => .bl (g i j)) := by
  intro x e m s H da db va vb R pa pb
  rcases h2 da db m with ⟨i, j, rfl, rfl⟩ | z
  · have ea := pa.int; have eb := pb.int
    subst ea eb
    exact .inr ⟨g i j, h1 i j m, fun Q q => ⟨i, j, rfl, rfl, q⟩⟩
  · exact .inl z
theorem cm_lt : CmD opLt (rI0 fun i j => .bl (decide (i < j))) := cm_int (fun _ _ _ => rfl) fun da db m => by cases da <;> cases db <;> first | exact .inr rfl | exact .inl ⟨_, _, rfl, rfl⟩
theorem cm_le : CmD opLe (rI0 fun i j => .bl (decide (i ≤ j))) := cm_int (fun _ _ _ => rfl) fun da db m => by cases da <;> cases db <;> first | exact .inr rfl | exact .inl ⟨_, _, rfl, rfl⟩
theorem rd_chain {f g : D → D → Sto → R D} {r r' : R2} (hf : CmD f r) (hg : OpD w g r') (s : L2.St) (H : Hp) (Q : VK) (q : rd PV w (sChain f g fa fb fc) s H Q) : tChain r r' (rd Pk w fa) (rd Pk w fb) (rd Pk w fc) s H Q := by
  obtain ⟨x, e, m, R, q⟩ := q
  refine rd_bind R q fun da m1 va y H1 R1 p1 st1 q1 => ?_
  refine rd_bind R1 q1 fun db m2 vb z H2 R2 p2 st2 q2 => ?_
  rcases hf z e m2 s H2 da db va vb R2 (p1.stay R1 st2) p2 with z1 | ⟨k, z1, hr⟩
  · rw [z1] at q2
    exact q2.elim
  · rw [z1] at q2
    refine hr _ ⟨k, rfl, ?_⟩
    cases k with
    | false =>
      rw [if_neg Bool.false_ne_true]
      exact Fin.here R2 q2 (.bl _)
    | true =>
      rw [if_pos rfl]
      refine rd_bind R2 q2 fun dc m3 vc u H3 R3 p3 st3 q3 => ?_
      exact hg u e m3 s H3 Q db dc vb vc R3 (p2.stay R2 st3) p3 q3
theorem de_chain {op op' : CmpOp} {f g : D → D → Sto → R D} {r r' : R2} (ho : OpR X (compareOp op) r) (ho' : OpR X (compareOp op') r') (hf : CmD f r) (hg : OpD w g r') (ha : DK X w a fa) (hb : DK X w b fb) (hc : DK X w c fc)
    (hm : lastMarks [op, op'] [b, c] = false := by with_unfolding_all rfl) : DE X w (.Compare a [op, op'] [b, c] pos) (sChain f g fa fb fc) :=
  PE.imp (pe_chain ho ho' ha hb hc hm) fun s H Q q => rd_chain hf hg s H Q q
theorem dt_chain {op op' : CmpOp} {f g : D → D → Sto → R D} {r r' : R2} (ho : OpR X (compareOp op) r) (ho' : OpR X (compareOp op') r') (hf : CmD f r) (hg : OpD w g r') (ha : DK X w a fa) (hb : DK X w b fb) (hc : DK X w c fc)
    (hm : lastMarks [op, op'] [b, c] = false := by with_unfolding_all rfl) : DT X w (.Compare a [op, op'] [b, c] pos) (sB (sChain f g fa fb fc)) :=
  PT.imp (pt_chain ho ho' ha hb hc hm) fun s H Q ⟨x, e, m, R, q⟩ => rd_chain hf hg s H _ ⟨x, e, m, R, fin_sB q⟩
/-! ### short names -/
theorem de_lt (ha : DK X w a fa) (hb : DK X w b fb) : DE X w (.Compare a [.Lt] [b] pos) (sBin opLt fa fb) := de_cmp op_lt od_lt ha hb (nomark _)
theorem de_le (ha : DK X w a fa) (hb : DK X w b fb) : DE X w (.Compare a [.LtE] [b] pos) (sBin opLe fa fb) := de_cmp op_le od_le ha hb (nomark _)
theorem de_gt (ha : DK X w a fa) (hb : DK X w b fb) : DE X w (.Compare a [.Gt] [b] pos) (sBin opGt fa fb) := de_cmp op_gt od_gt ha hb (nomark _)
theorem de_ge (ha : DK X w a fa) (hb : DK X w b fb) : DE X w (.Compare a [.GtE] [b] pos) (sBin opGe fa fb) := de_cmp op_ge od_ge ha hb (nomark _)
theorem de_eq (hu : X.A.units + 64 < cLine) (ha : DK X w a fa) (hb : DK X w b fb) : DE X w (.Compare a [.Eq] [b] pos) (sBin opEq fa fb) := de_cmp (op_eqD hu) (od_eq _) ha hb (nomark _)
theorem de_ne (hu : X.A.units + 64 < cLine) (ha : DK X w a fa) (hb : DK X w b fb) : DE X w (.Compare a [.NotEq] [b] pos) (sBin opNe fa fb) := de_cmp (op_neD hu) (od_ne _) ha hb (nomark _)
theorem de_in (ha : DK X w a fa) (hb : DK X w b fb) (hm : behindInMarks .In b = false := by rfl) : DE X w (.Compare a [.In] [b] pos) (sBin opIn fa fb) := de_cmp op_inA (od_in _) ha hb hm
theorem de_nin (ha : DK X w a fa) (hb : DK X w b fb) (hm : behindInMarks .NotIn b = false := by rfl) : DE X w (.Compare a [.NotIn] [b] pos) (sBin opNin fa fb) := de_cmp op_ninA (od_nin _) ha hb hm
theorem de_is (ha : DK X w a fa) (hb : DK X w b fb) : DE X w (.Compare a [.Is] [b] pos) (sBin opIs fa fb) := de_cmp op_isN od_is ha hb (nomark _)
theorem de_isn (ha : DK X w a fa) (hb : DK X w b fb) : DE X w (.Compare a [.IsNot] [b] pos) (sBin opIsn fa fb) := de_cmp op_notN od_isn ha hb (nomark _)
theorem dt_lt (ha : DK X w a fa) (hb : DK X w b fb) : DT X w (.Compare a [.Lt] [b] pos) (sB (sBin opLt fa fb)) := dt_cmp op_lt od_lt ha hb (nomark _)
theorem dt_le (ha : DK X w a fa) (hb : DK X w b fb) : DT X w (.Compare a [.LtE] [b] pos) (sB (sBin opLe fa fb)) := dt_cmp op_le od_le ha hb (nomark _)
theorem dt_gt (ha : DK X w a fa) (hb : DK X w b fb) : DT X w (.Compare a [.Gt] [b] pos) (sB (sBin opGt fa fb)) := dt_cmp op_gt od_gt ha hb (nomark _)
theorem dt_ge (ha : DK X w a fa) (hb : DK X w b fb) : DT X w (.Compare a [.GtE] [b] pos) (sB (sBin opGe fa fb)) := dt_cmp op_ge od_ge ha hb (nomark _)
theorem dt_eq (hu : X.A.units + 64 < cLine) (ha : DK X w a fa) (hb : DK X w b fb) : DT X w (.Compare a [.Eq] [b] pos) (sB (sBin opEq fa fb)) := dt_cmp (op_eqD hu) (od_eq _) ha hb (nomark _)
theorem dt_ne (hu : X.A.units + 64 < cLine) (ha : DK X w a fa) (hb : DK X w b fb) : DT X w (.Compare a [.NotEq] [b] pos) (sB (sBin opNe fa fb)) := dt_cmp (op_neD hu) (od_ne _) ha hb (nomark _)
theorem dt_in (ha : DK X w a fa) (hb : DK X w b fb) (hm : behindInMarks .In b = false := by rfl) : DT X w (.Compare a [.In] [b] pos) (sB (sBin opIn fa fb)) := dt_cmp op_inA (od_in _) ha hb hm
theorem dt_nin (ha : DK X w a fa) (hb : DK X w b fb) (hm : behindInMarks .NotIn b = false := by rfl) : DT X w (.Compare a [.NotIn] [b] pos) (sB (sBin opNin fa fb)) := dt_cmp op_ninA (od_nin _) ha hb hm
theorem dt_is (ha : DK X w a fa) (hb : DK X w b fb) : DT X w (.Compare a [.Is] [b] pos) (sB (sBin opIs fa fb)) := dt_cmp op_isN od_is ha hb (nomark _)
theorem dt_isn (ha : DK X w a fa) (hb : DK X w b fb) : DT X w (.Compare a [.IsNot] [b] pos) (sB (sBin opIsn fa fb)) := dt_cmp op_notN od_isn ha hb (nomark _)
theorem de_lele (ha : DK X w a fa) (hb : DK X w b fb) (hc : DK X w c fc) (hm : lastMarks [.LtE, .LtE] [b, c] = false := by with_unfolding_all rfl) : DE X w (.Compare a [.LtE, .LtE] [b, c] pos) (sChain opLe opLe fa fb fc) := de_chain op_le op_le cm_le od_le ha hb hc hm
theorem de_lelt (ha : DK X w a fa) (hb : DK X w b fb) (hc : DK X w c fc) (hm : lastMarks [.LtE, .Lt] [b, c] = false := by with_unfolding_all rfl) : DE X w (.Compare a [.LtE, .Lt] [b, c] pos) (sChain opLe opLt fa fb fc) := de_chain op_le op_lt cm_le od_lt ha hb hc hm
theorem dt_lele (ha : DK X w a fa) (hb : DK X w b fb) (hc : DK X w c fc) (hm : lastMarks [.LtE, .LtE] [b, c] = false := by with_unfolding_all rfl) : DT X w (.Compare a [.LtE, .LtE] [b, c] pos) (sB (sChain opLe opLe fa fb fc)) := dt_chain op_le op_le cm_le od_le ha hb hc hm
theorem dt_lelt (ha : DK X w a fa) (hb : DK X w b fb) (hc : DK X w c fc) (hm : lastMarks [.LtE, .Lt] [b, c] = false := by with_unfolding_all rfl) : DT X w (.Compare a [.LtE, .Lt] [b, c] pos) (sB (sChain opLe opLt fa fb fc)) := dt_chain op_le op_lt cm_le od_lt ha hb hc hm
def sNeg (f : SE) : SE := fun r m => bindR (f r m) fun d m => match d with
  | .int i => .ok (.int (-i)) m
  | _ => .bad
theorem de_neg (ha : DE X w a fa) : DE X w (.UnaryOp .USub a pos) (sNeg fa) :=
  PE.imp (pe_un un_neg ha) fun s H Q ⟨x, r, m, R, q⟩ => by
    refine rd_bind R q fun d m1 v y H1 R1 p1 st1 q1 => ?_
    cases d with
    | int i =>
      cases p1
      exact ⟨i, rfl, Fin.here R1 q1 (.int _)⟩
    | _ => exact q1.elim
end
end Dl
/-! The data layer: arguments, displays, subscripts, slices, built-in calls. -/
namespace Dl
open PySem PySem.Spec PyProof.Rows L2 TL

def aNil : SL := fun _ m => .ok [] m
def aCons (f : SE) (g : SL) : SL := fun r m => bindR (f r m) fun d m => bindR (g r m) fun ds m => .ok (d :: ds) m
section
variable {X : Cx} {w : Wi} {a b c e : Expr} {es rest : List Expr} {pos p : Pos} {fa fb fc f : SE} {g : SL}
theorem da_nil : DA X w [] aNil := PA.imp pa_nil fun s H Q ⟨x, r, m, R, q⟩ => Fin.here R q .nil
theorem da_cons (ha : DE X w e f) (hr : DA X w es g) (hs : starEach (e :: es) X.env = (false, eval e X.env) :: starEach es X.env := by rfl) : DA X w (e :: es) (aCons f g) :=
  PA.imp (pa_cons ha hr hs) fun s H Q ⟨x, r, m, R, q⟩ => by
    refine rd_bind R q fun d m1 v y H1 R1 p1 st1 q1 => ?_
    refine rd_bind R1 q1 fun ds m2 vs z H2 R2 p2 st2 q2 => ?_
    exact Fin.here R2 q2 (.cons (p1.mono st2.st.F st2.st.io) p2)
theorem dk_nil : DAk X w [] aNil := da_nil.k
theorem dk_cons (ha : DK X w e f) (hr : DAk X w es g) (hs : starEach (e :: es) X.env = (false, eval e X.env) :: starEach es X.env := by rfl) : DAk X w (e :: es) (aCons f g) :=
  PA.imp (pa_cons ha hr hs) fun s H Q ⟨x, r, m, R, q⟩ => by
    refine rd_bind R q fun d m1 v y H1 R1 p1 st1 q1 => ?_
    refine rd_bind R1 q1 fun ds m2 vs z H2 R2 p2 st2 q2 => ?_
    exact Fin.here R2 q2 (.cons (p1.stay R1 st2) p2)

/-! ### displays -/
def sTup (g : SL) : SE := fun r m => bindR (g r m) fun ds m => if ds.length ≤ LIM then .ok (.tup ds) m else .bad
def sLst (g : SL) : SE := fun r m => bindR (g r m) fun ds m => if ds.length ≤ LIM then .ok (.lst ds) m else .bad
theorem de_tup {k : Nat} (h : DA X w es g) : DE X w (.Tuple es k pos) (sTup g) :=
  PE.imp (pe_tup h) fun s H Q ⟨x, r, m, R, q⟩ => by
    refine rd_bind R q fun ds m1 vs y H1 R1 p1 st1 q1 => ?_
    obtain ⟨hz, q1⟩ := Fin.ite q1
    have hl : ds.length = vs.length := p1.length
    exact ⟨by rw [← hl, ← lim_eq]; exact hz, Fin.tuple R1 q1 p1⟩
theorem de_lst (h : DA X w es g) : DE X w (.List es pos) (sLst g) :=
  PE.imp (pe_lst h) fun s H Q ⟨x, r, m, R, q⟩ => by
    refine rd_bind R q fun ds m1 vs y H1 R1 p1 st1 q1 => ?_
    obtain ⟨hz, q1⟩ := Fin.ite q1
    have hl : ds.length = vs.length := p1.length
    exact ⟨by rw [← hl, ← lim_eq]; exact hz, Fin.list R1 q1 p1⟩

/-! ### subscripts -/
def ixD : D → D → Option D
  | .lst l, .int i => atI l i
  | .tup l, .int i => atI l i
  | .str z, .int i => if z.length ≤ LIM then (atI z i).map fun c => .str [c] else none
  | _, _ => none
def opIx (a b : D) (m : Sto) : R D := ofO (ixD a b) m
theorem atI_reps {F : Hp} {io : List Addr} {l : List D} {vs : List V} (h : Reps F io l vs) {i : Int} {d : D} (e : atI l i = some d) : ∃ v, atI vs i = some v ∧ Rep F io d v := by
  unfold atI at e ⊢
  rw [← h.length]
  cases k : ixN l.length i with
  | none =>
    rw [k] at e
    cases e
  | some j =>
    rw [k] at e
    exact h.get e
theorem od_ix (K : PySem.W.Frag) : OpD w opIx (rIx K) := by
  intro x e m s H Q da db va vb R pa pb h
  cases db with
  | int i =>
    have eb := pb.int
    subst eb
    cases da with
    | lst l =>
      obtain ⟨p, vs, rfl, hp, q⟩ := pa.lst R
      have h : Fin PV w x e s H Q (ofO (atI l i) m) := h
      cases k : atI l i with
      | none =>
        rw [k] at h
        exact h.elim
      | some d =>
        rw [k] at h
        obtain ⟨v, e1, r1⟩ := atI_reps q k
        exact .inl ⟨p, vs, i, v, rfl, rfl, SqL.of hp, e1, Fin.here R h r1⟩
    | tup l =>
      obtain ⟨p, vs, rfl, _, hp, q⟩ := pa.tup R
      have h : Fin PV w x e s H Q (ofO (atI l i) m) := h
      cases k : atI l i with
      | none =>
        rw [k] at h
        exact h.elim
      | some d =>
        rw [k] at h
        obtain ⟨v, e1, r1⟩ := atI_reps q k
        exact .inr (.inl ⟨p, vs, i, v, rfl, rfl, SqT.of hp, e1, Fin.here R h r1⟩)
    | str z =>
      have ea := pa.str
      subst ea
      have h : Fin PV w x e s H Q (ofO (if z.length ≤ LIM then (atI z i).map fun c => .str [c] else none) m) := h
      by_cases hz : z.length ≤ LIM
      · rw [if_pos hz] at h
        cases k : atI z i with
        | none =>
          rw [k] at h
          exact h.elim
        | some c =>
          rw [k] at h
          refine .inr (.inr ⟨⟨z.toArray⟩, i, c, rfl, rfl, by rw [str_len, ← lim_eq]; exact hz, k, Fin.here R h (.str [c])⟩)
      · rw [if_neg hz] at h
        exact h.elim
    | _ => exact h.elim
  | _ => cases da <;> exact h.elim
theorem de_ix (ha : DK X w a fa) (hb : DK X w b fb) (hs : PlainIx b := by exact fun _ _ => rfl) : DE X w (.Subscript a b pos) (sBin opIx fa fb) :=
  PE.imp (pe_ix ix_seq ha hb hs) fun s H Q q => rd_bin (od_ix _) s H Q q

/-! ### slices -/
abbrev SO := Sem1 (Option Int)
abbrev DO (X : Cx) (w : Wi) (e : Option Expr) (t : SO) : Prop := PO X e (rd (fun _ _ a b => a = b) w t)
def oNone : SO := fun _ m => .ok none m
def oSome (f : SE) : SO := fun r m => bindR (f r m) fun d m => match d with
  | .int i => .ok (some i) m
  | _ => .bad
theorem do_none : DO X w none oNone := ⟨fun pins s σ H Q I ⟨x, r, m, R, q⟩ => po_none.run pins s σ H Q I (Fin.here R q rfl)⟩
theorem do_some (h : DK X w e f) : DO X w (some e) (oSome f) := ⟨fun pins s σ H Q I ⟨x, r, m, R, q⟩ => (po_some h).run pins s σ H Q I (by
  refine rd_bind R q fun d m1 v y H1 R1 p1 st1 q1 => ?_
  cases d with
  | int i => exact ⟨i, p1.int, Fin.here R1 q1 rfl⟩
  | _ => exact q1.elim)⟩
def cutL {α : Type} (l : List α) (lo hi : Option Int) : List α := (l.drop (HT.sIx l.length 0 lo)).take (HT.sIx l.length l.length hi - HT.sIx l.length 0 lo)
def opSl (d : D) (lo hi : Option Int) (m : Sto) : R D := match d with
  | .lst l => .ok (.lst (cutL l lo hi)) m
  | .tup l => .ok (.tup (cutL l lo hi)) m
  | .str z => if z.length ≤ LIM then .ok (.str (cutL z lo hi)) m else .bad
  | _ => .bad
def sSl (f : SE) (lo hi : SO) : SE := fun r m => bindR (f r m) fun d m => bindR (lo r m) fun l m => bindR (hi r m) fun u m => opSl d l u m
def rSlAny (K : PySem.W.Frag) : V → Option Int → Option Int → Hp → VK → Prop := fun x lo hi H Q => rSlL K x lo hi H Q ∨ rSlA K x lo hi H Q ∨ rSlS x lo hi H Q
theorem sl_any : SlR X (rSlAny X.K) := SlR.or sl_list (SlR.or sl_tupA sl_str)
theorem cut_reps {F : Hp} {io : List Addr} {l : List D} {vs : List V} (h : Reps F io l vs) (lo hi : Option Int) : Reps F io (cutL l lo hi) (cutV vs lo hi) := by
  unfold cutL cutV
  rw [← h.length]
  exact (h.drop _).take _
theorem cut_whole {α : Type} {l : List α} {lo hi : Option Int} (h1 : HT.sIx l.length 0 lo = 0) (h2 : HT.sIx l.length l.length hi = l.length) : cutL l lo hi = l := by
  unfold cutL
  rw [h1, h2]
  simp
theorem de_sl {lo hi : Option Expr} {tl th : SO} {p2 : Pos} (ha : DK X w a fa) (hl : DO X w lo tl) (hh : DO X w hi th) : DE X w (.Subscript a (.Slice lo hi none p2) pos) (sSl fa tl th) :=
  PE.imp (pe_slice sl_any ha hl hh) fun s H Q ⟨x, r, m, R, q⟩ => by
    refine rd_bind R q fun d m1 v y H1 R1 p1 st1 q1 => ?_
    refine rd_bind R1 q1 fun l m2 l' z H2 R2 p2 st2 q2 => ?_
    refine rd_bind R2 q2 fun u m3 u' t H3 R3 p3 st3 q3 => ?_
    cases p2
    cases p3
    have pk := (p1.stay R1 st2).stay R2 st3
    cases d with
    | lst ds =>
      obtain ⟨a, vs, rfl, ha, q⟩ := pk.lst R3
      exact .inl ⟨a, vs, rfl, SqL.of ha, Fin.list R3 q3 (cut_reps q _ _)⟩
    | tup ds =>
      obtain ⟨a, vs, rfl, haF, ha, q⟩ := pk.tup R3
      refine .inr (.inl ⟨a, vs, rfl, SqT.of ha, fun hw => ?_, fun hw => Fin.tuple R3 q3 (cut_reps q _ _)⟩)
      rw [← q.length] at hw
      have q3 : Fin PV w t r s H3 Q (.ok (.tup (cutL ds l u)) m3) := q3
      rw [cut_whole hw.1 hw.2] at q3
      exact Fin.here R3 q3 (.tup haF q)
    | str ds =>
      have e := pk.str
      subst e
      obtain ⟨hz, q3⟩ := Fin.ite q3
      refine .inr (.inr ⟨_, rfl, by rw [str_len, ← lim_eq]; exact hz, ?_⟩)
      have e2 : cutS ⟨ds.toArray⟩ l u = ⟨(cutL ds l u).toArray⟩ := by
        unfold cutS cutL
        simp [Str.length]
      rw [e2]
      exact Fin.here R3 q3 (.str _)
    | _ => exact q3.elim

/-! ### calls of built-in names -/
/-- the answer by the arguments that are looked at -/
def CaD (w : Wi) (f : List D → Sto → R D) (r : List V → Hp → VK → Prop) : Prop := ∀ (x : Sx) (e : Env) (m : Sto) (s : L2.St) (H : Hp) (Q : VK) (ds : List D) (vs : List V), Rel x e m s H → Pks x H ds vs → Fin PV w x e s H Q (f ds m) → r vs H Q
def sCall (f : List D → Sto → R D) (g : SL) : SE := fun r m => bindR (g r m) fun ds m => f ds m
theorem rd_call {r : List V → Hp → VK → Prop} {fd : List D → Sto → R D} (h : CaD w fd r) (s : L2.St) (H : Hp) (Q : VK) (q : rd PV w (sCall fd g) s H Q) : tCB r (rd (fun x H ds vs => Pks x H ds vs) w g) s H Q := by
  obtain ⟨x, e, m, R, q⟩ := q
  refine rd_bind R q fun ds m1 vs y H1 R1 p1 st1 q1 => ?_
  exact h y e m1 s H1 Q ds vs R1 p1 q1
theorem de_callB {x : Str} {id : String} {r : List V → Hp → VK → Prop} {fd : List D → Sto → R D} (hc : CallR X (.builtin id) r) (h : CaD w fd r) (hg : Gl X x) (hm : X.mg x = none) (hv : bootBuiltins x = some (.builtin id)) (ha : DAk X w (e :: es) g) (hn : x ≠ "__name__" := by decide) (hdb : (x == ("__debug__" : Str)) = false := by decide)
    (he : starEach (e :: es) X.env = (false, eval e X.env) :: starEach es X.env := by rfl) (hpl : (backTo pos (starEach es X.env)).any (·.1) = false := by rfl) : DE X w (.Call (.Name x p) (e :: es) [] pos) (sCall fd g) :=
  PE.imp (pe_callB hc hg hm hv ha hn hdb he hpl) fun s H Q q => rd_call h s H Q q
theorem de_callT {x : Str} {T : String} {r : List V → Hp → VK → Prop} {fd : List D → Sto → R D} (hc : CallR X (.type T) r) (h : CaD w fd r) (hg : Gl X x) (hm : X.mg x = none) (hv : bootBuiltins x = some (.type T)) (ha : DAk X w (e :: es) g) (hn : x ≠ "__name__" := by decide) (hdb : (x == ("__debug__" : Str)) = false := by decide)
    (he : starEach (e :: es) X.env = (false, eval e X.env) :: starEach es X.env := by rfl) (hpl : (backTo pos (starEach es X.env)).any (·.1) = false := by rfl) : DE X w (.Call (.Name x p) (e :: es) [] pos) (sCall fd g) :=
  PE.imp (pe_callTy hc hg hm hv ha hn hdb he hpl) fun s H Q q => rd_call h s H Q q

/-- an answer that asks ints, makes nothing -/
theorem Pks.one {x : Sx} {H : Hp} {d : D} {vs : List V} (h : Pks x H [d] vs) : ∃ v, vs = [v] ∧ Pk x H d v := by
  cases h with
  | cons a t => cases t; exact ⟨_, rfl, a⟩
theorem Pks.two {x : Sx} {H : Hp} {d d' : D} {vs : List V} (h : Pks x H [d, d'] vs) : ∃ v v', vs = [v, v'] ∧ Pk x H d v ∧ Pk x H d' v' := by
  cases h with
  | cons a t =>
    cases t with
    | cons b t => cases t; exact ⟨_, _, rfl, a, b⟩
def fLen : List D → Sto → R D
  | [.str z], m => if z.length ≤ LIM then .ok (.int z.length) m else .bad
  | [.lst l], m => .ok (.int l.length) m
  | [.tup l], m => .ok (.int l.length) m
  | _, _ => .bad
theorem ca_len (K : PySem.W.Frag) : CaD w fLen (fun xs H Q => ∃ x n, xs = [x] ∧ LenV K x H n ∧ Q (.int n) H) := by
  intro x e m s H Q ds vs R ps h
  unfold fLen at h
  split at h
  · rename_i z
    obtain ⟨v, rfl, pa⟩ := ps.one
    have ea := pa.str
    subst ea
    obtain ⟨hz, h⟩ := Fin.ite h
    exact ⟨_, z.length, rfl, ⟨by rw [str_len, ← lim_eq]; exact hz, (str_len z).symm⟩, Fin.here R h (.int _)⟩
  · rename_i l
    obtain ⟨v, rfl, pa⟩ := ps.one
    obtain ⟨p, vs, rfl, hp, q⟩ := pa.lst R
    exact ⟨_, l.length, rfl, .inl ⟨vs, SqL.of hp, q.length⟩, Fin.here R h (.int _)⟩
  · rename_i l
    obtain ⟨v, rfl, pa⟩ := ps.one
    obtain ⟨p, vs, rfl, _, hp, q⟩ := pa.tup R
    exact ⟨_, l.length, rfl, .inr ⟨vs, SqT.of hp, q.length⟩, Fin.here R h (.int _)⟩
  · exact h.elim
theorem de_len (hg : Gl X "len") (hm : X.mg "len" = none) (ha : DK X w a fa) (hs : starEach [a] X.env = [(false, eval a X.env)] := by rfl) (hpl : (backTo pos (starEach [] X.env)).any (·.1) = false := by rfl) : DE X w (.Call (.Name "len" p) [a] [] pos) (sCall fLen (aCons fa aNil)) :=
  de_callB call_len (ca_len _) hg hm PySem.boot_len (dk_cons ha dk_nil hs) (by decide) (by decide) hs hpl
def fMax : List D → Sto → R D
  | [.int i, .int j], m => .ok (.int (max i j)) m
  | _, _ => .bad
def fMin : List D → Sto → R D
  | [.int i, .int j], m => .ok (.int (min i j)) m
  | _, _ => .bad
theorem ca_max : CaD w fMax (fun xs H Q => ∃ i j, xs = [.int i, .int j] ∧ Q (.int (if j > i then j else i)) H) := by
  intro x e m s H Q ds vs R ps h
  unfold fMax at h
  split at h
  · rename_i i j
    obtain ⟨v, v', rfl, pa, pb⟩ := ps.two
    have ea := pa.int; have eb := pb.int
    subst ea eb
    refine ⟨i, j, rfl, ?_⟩
    have e : (if j > i then j else i) = max i j := by
      by_cases hj : j > i
      · rw [if_pos hj]; omega
      · rw [if_neg hj]; omega
    rw [e]
    exact Fin.here R h (.int _)
  · exact h.elim
theorem ca_min : CaD w fMin (fun xs H Q => ∃ i j, xs = [.int i, .int j] ∧ Q (.int (if j < i then j else i)) H) := by
  intro x e m s H Q ds vs R ps h
  unfold fMin at h
  split at h
  · rename_i i j
    obtain ⟨v, v', rfl, pa, pb⟩ := ps.two
    have ea := pa.int; have eb := pb.int
    subst ea eb
    refine ⟨i, j, rfl, ?_⟩
    have e : (if j < i then j else i) = min i j := by
      by_cases hj : j < i
      · rw [if_pos hj]; omega
      · rw [if_neg hj]; omega
    rw [e]
    exact Fin.here R h (.int _)
  · exact h.elim
theorem de_max (hc : X.calm = true) (hg : Gl X "max") (hm : X.mg "max" = none) (ha : DK X w a fa) (hb : DK X w b fb) (hs : starEach [a, b] X.env = (false, eval a X.env) :: starEach [b] X.env := by rfl) (hs' : starEach [b] X.env = [(false, eval b X.env)] := by rfl) (hpl : (backTo pos (starEach [b] X.env)).any (·.1) = false := by rfl) :
    DE X w (.Call (.Name "max" p) [a, b] [] pos) (sCall fMax (aCons fa (aCons fb aNil))) :=
  de_callB (call_max2 hc) ca_max hg hm PyProof.Rows.boot_max (dk_cons ha (dk_cons hb dk_nil hs') hs) (by decide) (by decide) hs hpl
theorem de_min (hc : X.calm = true) (hg : Gl X "min") (hm : X.mg "min" = none) (ha : DK X w a fa) (hb : DK X w b fb) (hs : starEach [a, b] X.env = (false, eval a X.env) :: starEach [b] X.env := by rfl) (hs' : starEach [b] X.env = [(false, eval b X.env)] := by rfl) (hpl : (backTo pos (starEach [b] X.env)).any (·.1) = false := by rfl) :
    DE X w (.Call (.Name "min" p) [a, b] [] pos) (sCall fMin (aCons fa (aCons fb aNil))) :=
  de_callB (call_min2 hc) ca_min hg hm PyProof.Rows.boot_min (dk_cons ha (dk_cons hb dk_nil hs') hs) (by decide) (by decide) hs hpl
/-- int(number), int(flag), int(text) -/
def fInt : List D → Sto → R D
  | [.int i], m => .ok (.int i) m
  | [.bl b], m => .ok (.int (if b then 1 else 0)) m
  | [.str z], m => if z.length ≤ 640 then ofO ((PySem.intText? ⟨z.toArray⟩).map D.int) m else .bad
  | _, _ => .bad
def rIntA : List V → Hp → VK → Prop := fun xs H Q => ((∃ i, xs = [.int i] ∧ Q (.int i) H) ∨ ∃ k, xs = [.bl k] ∧ Q (.int (if k then 1 else 0)) H) ∨ ∃ a n, xs = [.str a] ∧ PySem.intText? a = some n ∧ a.length ≤ 640 ∧ Q (.int n) H
theorem ca_int : CaD w fInt rIntA := by
  intro x e m s H Q ds vs R ps h
  unfold fInt at h
  split at h
  · obtain ⟨v, rfl, pa⟩ := ps.one
    have ea := pa.int
    subst ea
    exact .inl (.inl ⟨_, rfl, Fin.here R h (.int _)⟩)
  · obtain ⟨v, rfl, pa⟩ := ps.one
    have ea := pa.bl
    subst ea
    exact .inl (.inr ⟨_, rfl, Fin.here R h (.int _)⟩)
  · rename_i z
    obtain ⟨v, rfl, pa⟩ := ps.one
    have ea := pa.str
    subst ea
    obtain ⟨hz, h⟩ := Fin.ite h
    cases k : PySem.intText? ⟨z.toArray⟩ with
    | none =>
      rw [k] at h
      exact h.elim
    | some n =>
      rw [k] at h
      exact .inr ⟨_, n, rfl, k, by rw [str_len]; exact hz, Fin.here R h (.int _)⟩
  · exact h.elim
theorem de_toInt (hg : Gl X "int") (hm : X.mg "int" = none) (ha : DK X w a fa) (hs : starEach [a] X.env = [(false, eval a X.env)] := by rfl) (hpl : (backTo pos (starEach [] X.env)).any (·.1) = false := by rfl) : DE X w (.Call (.Name "int" p) [a] [] pos) (sCall fInt (aCons fa aNil)) :=
  de_callT (CallR.or call_int1 call_int_str) ca_int hg hm PyProof.Rows.boot_int (dk_cons ha dk_nil hs) (by decide) (by decide) hs hpl
/-- str(number), str(text) is told apart -/
def fStr : List D → Sto → R D
  | [.int i], m => if i.natAbs < 10 ^ 500 then .ok (.str ((toString i : Str).cps.toList)) m else .bad
  | _, _ => .bad
/-- list(..), tuple(..) of a list or tuple -/
def fList : List D → Sto → R D
  | [.lst l], m => .ok (.lst l) m
  | [.tup l], m => .ok (.lst l) m
  | _, _ => .bad
def fTuple : List D → Sto → R D
  | [.lst l], m => .ok (.tup l) m
  | [.tup l], m => .ok (.tup l) m
  | _, _ => .bad
theorem ca_list (K : PySem.W.Frag) : CaD w fList (fun xs H Q => ∃ p ys, xs = [.ref p] ∧ (SqL K H p ys ∨ SqT K H p ys) ∧ ∀ l, H l = none → Q (.ref l) (upd H l (.lst ys))) := by
  intro x e m s H Q ds vs R ps h
  unfold fList at h
  split at h
  · obtain ⟨v, rfl, pa⟩ := ps.one
    obtain ⟨p, vs, rfl, hp, q⟩ := pa.lst R
    exact ⟨p, vs, rfl, .inl (SqL.of hp), Fin.list R h q⟩
  · obtain ⟨v, rfl, pa⟩ := ps.one
    obtain ⟨p, vs, rfl, _, hp, q⟩ := pa.tup R
    exact ⟨p, vs, rfl, .inr (SqT.of hp), Fin.list R h q⟩
  · exact h.elim
theorem ca_tuple (K : PySem.W.Frag) : CaD w fTuple (fun xs H Q => ∃ p ys, xs = [.ref p] ∧ ((SqL K H p ys ∧ ∀ l, H l = none → Q (.ref l) (upd H l (.tup ys))) ∨ (SqT K H p ys ∧ Q (.ref p) H))) := by
  intro x e m s H Q ds vs R ps h
  unfold fTuple at h
  split at h
  · obtain ⟨v, rfl, pa⟩ := ps.one
    obtain ⟨p, vs, rfl, hp, q⟩ := pa.lst R
    exact ⟨p, vs, rfl, .inl ⟨SqL.of hp, Fin.tuple R h q⟩⟩
  · obtain ⟨v, rfl, pa⟩ := ps.one
    obtain ⟨p, vs, rfl, hF, hp, q⟩ := pa.tup R
    exact ⟨p, vs, rfl, .inr ⟨SqT.of hp, Fin.here R h (.tup hF q)⟩⟩
  · exact h.elim
theorem de_list (hg : Gl X "list") (hm : X.mg "list" = none) (ha : DK X w a fa) (hs : starEach [a] X.env = [(false, eval a X.env)] := by rfl) (hpl : (backTo pos (starEach [] X.env)).any (·.1) = false := by rfl) : DE X w (.Call (.Name "list" p) [a] [] pos) (sCall fList (aCons fa aNil)) :=
  de_callT call_list_of (ca_list _) hg hm PyProof.Rows.boot_list (dk_cons ha dk_nil hs) (by decide) (by decide) hs hpl
theorem de_tuple (hg : Gl X "tuple") (hm : X.mg "tuple" = none) (ha : DK X w a fa) (hs : starEach [a] X.env = [(false, eval a X.env)] := by rfl) (hpl : (backTo pos (starEach [] X.env)).any (·.1) = false := by rfl) : DE X w (.Call (.Name "tuple" p) [a] [] pos) (sCall fTuple (aCons fa aNil)) :=
  de_callT call_tuple_of (ca_tuple _) hg hm PyProof.Rows.boot_tuple (dk_cons ha dk_nil hs) (by decide) (by decide) hs hpl
/-- sum of a list of ints; all of a list of truths -/
def intsOf : List D → Option (List Int)
  | [] => some []
  | .int i :: l => (intsOf l).map (i :: ·)
  | _ => none
def blsOf : List D → Option (List Bool)
  | [] => some []
  | .bl i :: l => (blsOf l).map (i :: ·)
  | _ => none
theorem ints_reps {F : Hp} {io : List Addr} : ∀ {l : List D} {vs : List V} {ns : List Int}, Reps F io l vs → intsOf l = some ns → vs = ns.map V.int
  | [], _, _, .nil, e => by
    cases e
    rfl
  | d :: l, _, ns, .cons r t, e => by
    cases d with
    | int i =>
      cases r
      cases k : intsOf l with
      | none =>
        have e : (intsOf l).map (i :: ·) = some ns := e
        rw [k] at e
        cases e
      | some ms =>
        have e : (intsOf l).map (i :: ·) = some ns := e
        rw [k] at e
        cases e
        rw [ints_reps t k]
        rfl
    | _ => cases e
theorem bls_reps {F : Hp} {io : List Addr} : ∀ {l : List D} {vs : List V} {ns : List Bool}, Reps F io l vs → blsOf l = some ns → vs = ns.map V.bl
  | [], _, _, .nil, e => by
    cases e
    rfl
  | d :: l, _, ns, .cons r t, e => by
    cases d with
    | bl i =>
      cases r
      cases k : blsOf l with
      | none =>
        have e : (blsOf l).map (i :: ·) = some ns := e
        rw [k] at e
        cases e
      | some ms =>
        have e : (blsOf l).map (i :: ·) = some ns := e
        rw [k] at e
        cases e
        rw [bls_reps t k]
        rfl
    | _ => cases e
@[simp] theorem intsOf_map (l : List Int) : intsOf (l.map D.int) = some l := by
  induction l with
  | nil => rfl
  | cons i l ih =>
    show (intsOf (l.map D.int)).map (i :: ·) = _
    rw [ih]
    rfl
@[simp] theorem blsOf_map (l : List Bool) : blsOf (l.map D.bl) = some l := by
  induction l with
  | nil => rfl
  | cons i l ih =>
    show (blsOf (l.map D.bl)).map (i :: ·) = _
    rw [ih]
    rfl
def fSum : List D → Sto → R D
  | [.lst l], m => ofO ((intsOf l).map fun ns => D.int ns.sum) m
  | _, _ => .bad
def fAll : List D → Sto → R D
  | [.lst l], m => ofO ((blsOf l).map fun ns => D.bl (ns.all id)) m
  | _, _ => .bad
theorem ca_sum (K : PySem.W.Frag) : CaD w fSum (rSum K) := by
  intro x e m s H Q ds vs R ps h
  unfold fSum at h
  split at h
  · rename_i l
    obtain ⟨v, rfl, pa⟩ := ps.one
    obtain ⟨p, vs, rfl, hp, q⟩ := pa.lst R
    cases k : intsOf l with
    | none =>
      rw [k] at h
      exact h.elim
    | some ns =>
      rw [k] at h
      have e := ints_reps q k
      subst e
      exact ⟨p, ns, rfl, SqL.of hp, Fin.here R h (.int _)⟩
  · exact h.elim
theorem ca_all (K : PySem.W.Frag) : CaD w fAll (rAll K) := by
  intro x e m s H Q ds vs R ps h
  unfold fAll at h
  split at h
  · rename_i l
    obtain ⟨v, rfl, pa⟩ := ps.one
    obtain ⟨p, vs, rfl, hp, q⟩ := pa.lst R
    cases k : blsOf l with
    | none =>
      rw [k] at h
      exact h.elim
    | some ns =>
      rw [k] at h
      have e := bls_reps q k
      subst e
      exact ⟨p, ns, rfl, SqL.of hp, Fin.here R h (.bl _)⟩
  · exact h.elim
theorem de_sum (hc : X.calm = true) (hg : Gl X "sum") (hm : X.mg "sum" = none) (ha : DK X w a fa) (hs : starEach [a] X.env = [(false, eval a X.env)] := by rfl) (hpl : (backTo pos (starEach [] X.env)).any (·.1) = false := by rfl) : DE X w (.Call (.Name "sum" p) [a] [] pos) (sCall fSum (aCons fa aNil)) :=
  de_callB (cr_sum hc) (ca_sum _) hg hm PyProof.Rows.boot_sum (dk_cons ha dk_nil hs) (by decide) (by decide) hs hpl
theorem de_all (hc : X.calm = true) (hg : Gl X "all") (hm : X.mg "all" = none) (ha : DK X w a fa) (hs : starEach [a] X.env = [(false, eval a X.env)] := by rfl) (hpl : (backTo pos (starEach [] X.env)).any (·.1) = false := by rfl) : DE X w (.Call (.Name "all" p) [a] [] pos) (sCall fAll (aCons fa aNil)) :=
  de_callB (cr_all hc) (ca_all _) hg hm PyProof.Rows.boot_all (dk_cons ha dk_nil hs) (by decide) (by decide) hs hpl
end
end Dl
/-! The data layer: statements. -/
namespace Dl
open PySem PySem.Spec PyProof.Rows L2 TL

/-- how a statement ends -/
inductive Fl where
  | nx (r : Env) (m : Sto)
  | rt (d : D) (m : Sto)
  | bk (r : Env) (m : Sto)
  | ct (r : Env) (m : Sto)
  | exc (c : Nat) (v : D) (r : Env) (m : Sto)
  | bad
abbrev SS := Env → Sto → Fl
def bindS {α : Type} (e : Env) (r : R α) (f : α → Sto → Fl) : Fl := match r with
  | .ok a m => f a m
  | .exc c v m => .exc c v e m
  | .bad => .bad
@[simp] theorem bindS_ok {α : Type} (e : Env) (a : α) (m : Sto) (f : α → Sto → Fl) : bindS e (.ok a m) f = f a m := rfl
@[simp] theorem bindS_exc {α : Type} (e : Env) (c : Nat) (v : D) (m : Sto) (f : α → Sto → Fl) : bindS e (.exc c v m) f = .exc c v e m := rfl
@[simp] theorem bindS_bad {α : Type} (e : Env) (f : α → Sto → Fl) : bindS e (.bad : R α) f = .bad := rfl
def FinS (w : Wi) (x : Sx) (H : Hp) (E : Ends) : Fl → Prop
  | .nx r m => ∀ s y H', Rel y r m s H' → StS x H y H' → E.nx s H'
  | .rt d m => ∀ v y H', Rel y [] m [] H' → Rep y.F y.io d v → StS x H y H' → E.rt v H'
  | .bk r m => ∀ s y H', Rel y r m s H' → StS x H y H' → E.bk s H'
  | .ct r m => ∀ s y H', Rel y r m s H' → StS x H y H' → E.ct s H'
  | .exc c v r m => ∀ cls d s y H', Rel y r m s H' → ExAt w c v cls d y H' → StS x H y H' → w.W cls d s H'
  | .bad => False
def rdS (w : Wi) (f : SS) : TS := fun E s H => ∃ x r m, Rel x r m s H ∧ FinS w x H E (f r m)
abbrev DS (X : Cx) (w : Wi) (st : Stmt) (f : SS) : Prop := PS X st (rdS w f)
abbrev DSs (X : Cx) (w : Wi) (st : List Stmt) (f : SS) : Prop := PSs X st (rdS w f)
section
variable {x y : Sx} {r : Env} {m : Sto} {s : L2.St} {H H' : Hp} {w : Wi} {E : Ends}
theorem FinS.shift {f : Fl} (st : StS x H y H') (h : FinS w x H E f) : FinS w y H' E f := by
  cases f with
  | nx r m => exact fun s z H2 R t => h s z H2 R (st.trans t)
  | rt d m => exact fun s z H2 R p t => h s z H2 R p (st.trans t)
  | bk r m => exact fun s z H2 R t => h s z H2 R (st.trans t)
  | ct r m => exact fun s z H2 R t => h s z H2 R (st.trans t)
  | exc c v r m => exact fun cls d s z H2 R p t => h cls d s z H2 R p (st.trans t)
  | bad => exact h
theorem FinS.ite {f : Fl} {c : Prop} [Decidable c] (h : FinS w x H E (if c then f else .bad)) : c ∧ FinS w x H E f := by
  by_cases hc : c
  · rw [if_pos hc] at h
    exact ⟨hc, h⟩
  · rw [if_neg hc] at h
    exact h.elim
/-- an expression within a statement -/
theorem rd_bindS {α β : Type} {P : PP α β} {f : Sem1 α} {g : α → Sto → Fl} {K : β → Hp → Prop} (R : Rel x r m s H) (h : FinS w x H E (bindS r (f r m) g))
    (k : ∀ a m' b y H', Rel y r m' s H' → P y H' a b → StE x H y H' → FinS w y H' E (g a m') → K b H') : rd P w f s H K := by
  refine ⟨x, r, m, R, ?_⟩
  cases e : f r m with
  | ok a m' =>
    rw [e] at h
    exact fun b y H' R' p st => k a m' b y H' R' p st (FinS.shift st.toS h)
  | exc c v m' =>
    rw [e] at h
    exact fun cls d y H' R' p st => h cls d s y H' R' p st.toS
  | bad =>
    rw [e] at h
    exact h
theorem FinS.here {r' : Env} {m' : Sto} (R : Rel x r' m' s H) (h : FinS w x H E (.nx r' m')) : E.nx s H := h s x H R .refl
/-- a state whose slots are left -/
theorem Rel.leave (R : Rel x r m s H) : Rel { x with A1 := [] } [] m [] H :=
  ⟨R.sub, .nil, R.sto, (List.nodup_append.mp R.nd).2.1, fun a ha => R.nF a (List.mem_append_right _ ha)⟩
theorem StS.leave (R : Rel x r m s H) : StS x H { x with A1 := [] } H := ⟨⟨.refl _, .refl _, fun _ _ h _ => h, fun _ h => h, fun b h1 h2 => absurd h1 h2, fun b h => .inl h⟩, fun b h => by cases h⟩
/-- a slot is forgotten -/
theorem Rel.forget (R : Rel x r m s H) (i : Nat) : ∃ y, Rel y (r.set i none) m s H ∧ StS x H y H := by
  by_cases hi : i < r.length
  · obtain ⟨A0, A', p, _, _, A2, p2, n⟩ := R.vars.at hi
    have sub : ∀ b ∈ A2, b ∈ x.A1 := fun b hb => p.mem_iff.mpr (List.mem_append_right _ (p2.mem_iff.mp hb))
    have nd1 : (A0 ++ A').Nodup := (p.nodup_iff).mp (List.nodup_append.mp R.nd).1
    refine ⟨{ x with A1 := A2 }, ⟨R.sub, ?_, R.sto, ?_, fun a ha => ?_⟩, ⟨⟨.refl _, .refl _, fun _ _ h _ => h, fun _ h => h, fun b h1 h2 => absurd h1 h2, fun b h => .inl h⟩, fun b h => .inl (sub b h)⟩⟩
    · have q := n (s[i]?.getD none)
      have e : s.set i (s[i]?.getD none) = s := by
        refine List.ext_getElem? fun j => ?_
        by_cases hj : j = i
        · subst hj
          have hl : j < s.length := by rw [← R.vars.length]; exact hi
          rw [List.getElem?_set_self hl, List.getElem?_eq_getElem hl]
          rfl
        · rw [List.getElem?_set_ne (Ne.symm hj)]
      rw [e] at q
      exact q
    · refine List.nodup_append.mpr ⟨(p2.nodup_iff).mpr (List.nodup_append.mp nd1).2.1, (List.nodup_append.mp R.nd).2.1, fun a ha b hb => (List.nodup_append.mp R.nd).2.2 a (sub a ha) b hb⟩
    · rcases List.mem_append.mp ha with q | q
      · exact R.nF a (List.mem_append_left _ (sub a q))
      · exact R.nF a (List.mem_append_right _ q)
  · rw [List.set_eq_of_length_le (Nat.le_of_not_lt hi)]
    exact ⟨x, R, .refl⟩
/-- a cell is put into a slot -/
theorem Rel.put {c : Cell} {v : V} {A : List Addr} (R : Rel x r m s H) (i : Nat) (hc : CellR x.F x.io H c v A) (hA : ∀ a ∈ A, x.F a = none ∧ a ∉ x.A1 ++ x.A2) :
    ∃ y, Rel y (r.set i (some c)) m (s.set i (some v)) H ∧ y.F = x.F ∧ y.io = x.io ∧ y.A2 = x.A2 ∧ ∀ b ∈ y.A1, b ∈ x.A1 ∨ b ∈ A := by
  by_cases hi : i < r.length
  · obtain ⟨A0, A', p, _, wr, _⟩ := R.vars.at hi
    obtain ⟨A2, p2, q⟩ := wr (F' := x.F) (io' := x.io) (H' := H) (.refl _) (.refl _) (fun b _ o h => h) hc
    have sub : ∀ b ∈ A', b ∈ x.A1 := fun b hb => p.mem_iff.mpr (List.mem_append_right _ hb)
    have nd1 : (A0 ++ A').Nodup := (p.nodup_iff).mp (List.nodup_append.mp R.nd).1
    have ndA : A.Nodup := by
      cases hc with
      | val _ => exact List.nodup_nil
      | lst _ _ => simp
    have mem : ∀ b ∈ A2, b ∈ A ∨ b ∈ A' := fun b hb => List.mem_append.mp (p2.mem_iff.mp hb)
    refine ⟨{ x with A1 := A2 }, ⟨R.sub, q, R.sto, ?_, fun a ha => ?_⟩, rfl, rfl, rfl, fun b hb => ?_⟩
    · refine List.nodup_append.mpr ⟨(p2.nodup_iff).mpr (List.nodup_append.mpr ⟨ndA, (List.nodup_append.mp nd1).2.1, fun a ha b hb e => ?_⟩), (List.nodup_append.mp R.nd).2.1, fun a ha b hb e => ?_⟩
      · subst e
        exact (hA a ha).2 (List.mem_append_left _ (sub a hb))
      · subst e
        rcases mem a ha with z | z
        · exact (hA a z).2 (List.mem_append_right _ hb)
        · exact (List.nodup_append.mp R.nd).2.2 a (sub a z) a hb rfl
    · rcases List.mem_append.mp ha with z | z
      · rcases mem a z with z | z
        · exact (hA a z).1
        · exact R.nF a (List.mem_append_left _ (sub a z))
      · exact R.nF a (List.mem_append_right _ z)
    · rcases mem b hb with z | z
      · exact .inr z
      · exact .inl (sub b z)
  · rw [List.set_eq_of_length_le (Nat.le_of_not_lt hi), List.set_eq_of_length_le (by rw [← R.vars.length]; exact Nat.le_of_not_lt hi)]
    exact ⟨x, R, rfl, rfl, rfl, fun b hb => .inl hb⟩
theorem Rel.putV {d : D} {v : V} (R : Rel x r m s H) (i : Nat) (h : Rep x.F x.io d v) : ∃ y, Rel y (r.set i (some (.val d))) m (s.set i (some v)) H ∧ y.F = x.F ∧ y.io = x.io ∧ y.A2 = x.A2 ∧ ∀ b ∈ y.A1, b ∈ x.A1 := by
  obtain ⟨y, R', e1, e2, e3, e4⟩ := R.put i (.val h) (fun a ha => by cases ha)
  exact ⟨y, R', e1, e2, e3, fun b hb => (e4 b hb).elim id fun z => by cases z⟩
theorem StS.same (h1 : y.F = x.F) (h2 : y.io = x.io) (h3 : y.A2 = x.A2) (h4 : ∀ b ∈ y.A1, b ∈ x.A1 ∨ H b = none) : StS x H y H := by
  refine ⟨⟨by rw [h1]; exact .refl _, by rw [h2]; exact .refl _, fun _ _ h _ => h, fun _ h => h, fun b e1 e2 => ?_, fun b h => .inl (by rw [← h3]; exact h)⟩, fun b h => ?_⟩
  · rw [h1] at e2
    exact absurd e1 e2
  · rcases h4 b h with z | z
    · exact .inl z
    · exact .inr (.inr z)
/-- a slot's own list will stand from now on -/
theorem Rel.freeze {l : List D} (R : Rel x r m s H) {i : Nat} (h : r[i]? = some (some (.lst l))) : ∃ y, Rel y (r.set i (some (.val (.lst l)))) m s H ∧ StS x H y H := by
  have hi : i < r.length := (List.getElem?_eq_some_iff.mp h).1
  obtain ⟨A0, A', p, g, wr, _⟩ := R.vars.at hi
  obtain ⟨v, ev, hc⟩ := g _ h
  cases hc with
  | @lst a ds vs ha rp =>
    have haA : a ∈ x.A1 := p.mem_iff.mpr (List.mem_append_left _ (by simp))
    have haF : x.F a = none := R.nF a (List.mem_append_left _ haA)
    have hs : Sub x.F (upd x.F a (.lst vs)) := fun b q e => by rw [upd_ne (ne_of_none e haF)]; exact e
    have nd1 : ([a] ++ A').Nodup := (p.nodup_iff).mp (List.nodup_append.mp R.nd).1
    have naA : ∀ b ∈ A', b ≠ a := fun b hb e => by
      subst e
      exact (List.nodup_append.mp nd1).2.2 b (by simp) b hb rfl
    obtain ⟨A2, p2, q⟩ := wr (F' := upd x.F a (.lst vs)) (io' := x.io) (H' := H) hs (.refl _) (fun b _ o h => h) (.val (.lst upd_same (rp.mono hs (.refl _))))
    have mem : ∀ b ∈ A2, b ∈ A' := fun b hb => by simpa using p2.mem_iff.mp hb
    have sub : ∀ b ∈ A', b ∈ x.A1 := fun b hb => p.mem_iff.mpr (List.mem_append_right _ hb)
    have es : s.set i (some (.ref a)) = s := by
      refine List.ext_getElem? fun j => ?_
      by_cases hj : j = i
      · subst hj
        have hl : j < s.length := by rw [← R.vars.length]; exact hi
        rw [List.getElem?_set_self hl, ev]
      · rw [List.getElem?_set_ne (Ne.symm hj)]
    rw [es] at q
    refine ⟨{ x with F := upd x.F a (.lst vs), A1 := A2 }, ⟨fun b o e => ?_, q, R.sto.mono hs (.refl _) (fun b _ o h => h), ?_, fun b hb => ?_⟩, ⟨⟨hs, .refl _, fun _ _ h _ => h, fun _ h => h, fun b h1 h2 => ?_, fun b h => .inl h⟩, fun b h => .inl (sub b (mem b h))⟩⟩
    · have e : upd x.F a (.lst vs) b = some o := e
      by_cases hb : b = a
      · subst hb
        rw [upd_same] at e
        cases e
        exact ha
      · rw [upd_ne hb] at e
        exact R.sub _ _ e
    · refine List.nodup_append.mpr ⟨(p2.nodup_iff).mpr (by simpa using (List.nodup_append.mp nd1).2.1), (List.nodup_append.mp R.nd).2.1, fun c hc b hb => (List.nodup_append.mp R.nd).2.2 c (sub c (mem c hc)) b hb⟩
    · have hba : b ≠ a := by
        rcases List.mem_append.mp hb with z | z
        · exact naA b (mem b z)
        · exact fun e => (List.nodup_append.mp R.nd).2.2 a haA b z e.symm
      show upd x.F a (.lst vs) b = none
      rw [upd_ne hba]
      rcases List.mem_append.mp hb with z | z
      · exact R.nF b (List.mem_append_left _ (sub b (mem b z)))
      · exact R.nF b (List.mem_append_right _ z)
    · by_cases hb : b = a
      · subst hb
        exact .inr (List.mem_append_left _ haA)
      · have h2 : upd x.F a (.lst vs) b ≠ none := h2
        rw [upd_ne hb] at h2
        exact absurd h1 h2
/-- a slot's own list is changed -/
theorem Rel.own {l l' : List D} (R : Rel x r m s H) {i : Nat} (h : r[i]? = some (some (.lst l))) : ∃ a vs, s[i]? = some (some (.ref a)) ∧ a ∈ x.A1 ∧ H a = some (.lst vs) ∧ Reps x.F x.io l vs ∧
    ∀ vs', Reps x.F x.io l' vs' → ∃ y, Rel y (r.set i (some (.lst l'))) m s (upd H a (.lst vs')) ∧ StS x H y (upd H a (.lst vs')) := by
  have hi : i < r.length := (List.getElem?_eq_some_iff.mp h).1
  obtain ⟨A0, A', p, g, wr, _⟩ := R.vars.at hi
  obtain ⟨v, ev, hc⟩ := g _ h
  cases hc with
  | @lst a ds vs ha rp =>
    have haA : a ∈ x.A1 := p.mem_iff.mpr (List.mem_append_left _ (by simp))
    refine ⟨a, vs, ev, haA, ha, rp, fun vs' rp' => ?_⟩
    have haF : x.F a = none := R.nF a (List.mem_append_left _ haA)
    have nd1 : ([a] ++ A').Nodup := (p.nodup_iff).mp (List.nodup_append.mp R.nd).1
    have naA : ∀ b ∈ A', b ≠ a := fun b hb e => by
      subst e
      exact (List.nodup_append.mp nd1).2.2 b (by simp) b hb rfl
    have na2 : ∀ b ∈ x.A2, b ≠ a := fun b hb e => (List.nodup_append.mp R.nd).2.2 a haA b hb e.symm
    obtain ⟨A2, p2, q⟩ := wr (F' := x.F) (io' := x.io) (H' := upd H a (.lst vs')) (.refl _) (.refl _) (fun b hb o h => by rw [upd_ne (naA b hb)]; exact h) (.lst upd_same rp')
    have mem : ∀ b ∈ A2, b = a ∨ b ∈ A' := fun b hb => by simpa using p2.mem_iff.mp hb
    have sub : ∀ b ∈ A', b ∈ x.A1 := fun b hb => p.mem_iff.mpr (List.mem_append_right _ hb)
    have sub2 : ∀ b ∈ A2, b ∈ x.A1 := fun b hb => (mem b hb).elim (fun e => by rw [e]; exact haA) (sub b)
    have es : s.set i (some (.ref a)) = s := by
      refine List.ext_getElem? fun j => ?_
      by_cases hj : j = i
      · subst hj
        have hl : j < s.length := by rw [← R.vars.length]; exact hi
        rw [List.getElem?_set_self hl, ev]
      · rw [List.getElem?_set_ne (Ne.symm hj)]
    rw [es] at q
    refine ⟨{ x with A1 := A2 }, ⟨fun b o e => ?_, q, R.sto.mono (.refl _) (.refl _) (fun b hb o h => by rw [upd_ne (na2 b hb)]; exact h), ?_, fun b hb => ?_⟩, ⟨⟨.refl _, .refl _, fun b o h n => ?_, fun b h => ?_, fun b h1 h2 => absurd h1 h2, fun b h => .inl h⟩, fun b h => .inl (sub2 b h)⟩⟩
    · rw [upd_ne (ne_of_none (H := x.F) e haF)]
      exact R.sub _ _ e
    · refine List.nodup_append.mpr ⟨(p2.nodup_iff).mpr nd1, (List.nodup_append.mp R.nd).2.1, fun c hc b hb => (List.nodup_append.mp R.nd).2.2 c (sub2 c hc) b hb⟩
    · rcases List.mem_append.mp hb with z | z
      · exact R.nF b (List.mem_append_left _ (sub2 b z))
      · exact R.nF b (List.mem_append_right _ z)
    · have hb : b ≠ a := fun e => n (by rw [e]; exact List.mem_append_left _ haA)
      rw [upd_ne hb]
      exact h
    · by_cases hb : b = a
      · subst hb
        rw [upd_same] at h
        cases h
      · rw [upd_ne hb] at h
        exact h
end

/-! ### blocks -/
def sSkip : SS := fun r m => .nx r m
def sSeq (f g : SS) : SS := fun r m => match f r m with
  | .nx r m => g r m
  | o => o
def sForget (i : Nat) (g : SS) : SS := fun r m => g (r.set i none) m
def sFreeze (i : Nat) (g : SS) : SS := fun r m => match r[i]? with
  | some (some (.lst l)) => g (r.set i (some (.val (.lst l)))) m
  | _ => .bad
section
variable {X : Cx} {w : Wi} {st : Stmt} {rest sts : List Stmt} {f g : SS} {pos : Pos} {e : Expr} {fe : SE}
theorem dss_nil : DSs X w [] sSkip := PSs.imp pss_nil fun E s H ⟨x, r, m, R, q⟩ => FinS.here R q
theorem rd_seq (E : Ends) (s : L2.St) (H : Hp) (q : rdS w (sSeq f g) E s H) : rdS w f { E with nx := rdS w g E } s H := by
  obtain ⟨x, r, m, R, q⟩ := q
  refine ⟨x, r, m, R, ?_⟩
  unfold sSeq at q
  cases k : f r m with
  | nx r' m' =>
    rw [k] at q
    exact fun s' y H' R' st => ⟨y, r', m', R', FinS.shift st q⟩
  | rt d m' => rw [k] at q; exact q
  | bk r' m' => rw [k] at q; exact q
  | ct r' m' => rw [k] at q; exact q
  | exc c v r' m' => rw [k] at q; exact q
  | bad => rw [k] at q; exact q
theorem dss_cons (h1 : DS X w st f) (h2 : DSs X w rest g) : DSs X w (st :: rest) (sSeq f g) := PSs.imp (pss_cons h1 h2) rd_seq
theorem dss_one (h1 : DS X w st f) : DSs X w [st] f := pss_one h1
theorem dss_forget (i : Nat) (h : DSs X w sts g) : DSs X w sts (sForget i g) := PSs.imp h fun E s H ⟨x, r, m, R, q⟩ => by
  obtain ⟨y, R', st⟩ := R.forget i
  exact ⟨y, _, m, R', FinS.shift st q⟩
theorem dss_freeze (i : Nat) (h : DSs X w sts g) : DSs X w sts (sFreeze i g) := PSs.imp h fun E s H ⟨x, r, m, R, q⟩ => by
  unfold sFreeze at q
  split at q
  · rename_i l hl
    obtain ⟨y, R', st⟩ := R.freeze hl
    exact ⟨y, _, m, R', FinS.shift st q⟩
  · exact q.elim
theorem dss_never : DSs X w sts (fun _ _ => .bad) := PSs.imp pss_never fun E s H ⟨x, r, m, R, q⟩ => q.elim
theorem ds_never : DS X w st (fun _ _ => .bad) := PS.imp ps_never fun E s H ⟨x, r, m, R, q⟩ => q.elim
theorem ds_doc {x : Str} {j : Nat} {p : Pos} : DS X w (.Expr (.Constant (.str x) j p) pos) sSkip := PS.imp ps_doc fun E s H ⟨x, r, m, R, q⟩ => FinS.here R q
theorem ds_pass : DS X w (.Pass pos) sSkip := PS.imp ps_pass fun E s H ⟨x, r, m, R, q⟩ => FinS.here R q
theorem ds_break : DS X w (.Break pos) (fun r m => .bk r m) := PS.imp ps_break fun E s H ⟨x, r, m, R, q⟩ => q s x H R .refl
theorem ds_continue : DS X w (.Continue pos) (fun r m => .ct r m) := PS.imp ps_continue fun E s H ⟨x, r, m, R, q⟩ => q s x H R .refl
/-! ### return, expressions, if -/
def sRet (f : SE) : SS := fun r m => bindS r (f r m) fun d m => .rt d m
def sExpr (f : SE) : SS := fun r m => bindS r (f r m) fun _ m => .nx r m
theorem ds_ret (h : DE X w e fe) : DS X w (.Return (some e) pos) (sRet fe) := PS.imp (ps_ret h) fun E s H ⟨x, r, m, R, q⟩ => by
  refine rd_bindS R q fun d m1 v y H1 R1 p1 st1 q1 => ?_
  exact q1 v { y with A1 := [] } H1 R1.leave p1 (StS.leave R1)
theorem ds_retN : DS X w (.Return none pos) (fun _ m => .rt .non m) := PS.imp ps_retN fun E s H ⟨x, r, m, R, q⟩ => q .non { x with A1 := [] } H R.leave .non (StS.leave R)
theorem ds_expr (h : DE X w e fe) (hs : swapsWith e none pos.line X.env = pure false := by rfl) : DS X w (.Expr e pos) (sExpr fe) := PS.imp (ps_expr h hs) fun E s H ⟨x, r, m, R, q⟩ => by
  refine rd_bindS R q fun d m1 v y H1 R1 p1 st1 q1 => ?_
  exact FinS.here R1 q1
def sIfS (t : SB) (f g : SS) : SS := fun r m => bindS r (t r m) fun b m => if b = true then f r m else g r m
theorem ds_if {c : Expr} {a b : List Stmt} {t : SB} (hc : DT X w c t) (ha : DSs X w a f) (hb : DSs X w b g) : DS X w (.If c a b pos) (sIfS t f g) := PS.imp (ps_if hc ha hb) fun E s H ⟨x, r, m, R, q⟩ => by
  refine rd_bindS R q fun k m1 v y H1 R1 p1 st1 q1 => ?_
  cases p1
  cases k with
  | true =>
    rw [if_pos rfl] at q1 ⊢
    exact ⟨y, r, m1, R1, q1⟩
  | false =>
    rw [if_neg Bool.false_ne_true] at q1 ⊢
    exact ⟨y, r, m1, R1, q1⟩
end

/-! ### cells: what a name is given -/
abbrev SCe := Sem1 Cell
def FinC (w : Wi) (x : Sx) (r : Env) (s : L2.St) (H : Hp) (Q : VK) : R Cell → Prop
  | .ok c m => ∀ v y H' A, Rel y r m s H' → CellR y.F y.io H' c v A → (∀ a ∈ A, y.F a = none ∧ a ∉ y.A1 ++ y.A2 ∧ H a = none) → StE x H y H' → Q v H'
  | .exc c v m => ∀ cls d y H', Rel y r m s H' → ExAt w c v cls d y H' → StE x H y H' → w.W cls d s H'
  | .bad => False
def rdC (w : Wi) (f : SCe) : TE := fun s H Q => ∃ x r m, Rel x r m s H ∧ FinC w x r s H Q (f r m)
abbrev DC (X : Cx) (w : Wi) (e : Expr) (f : SCe) : Prop := PE X e (rdC w f)
def cV (f : SE) : SCe := fun r m => bindR (f r m) fun d m => .ok (.val d) m
def cL (g : SL) : SCe := fun r m => bindR (g r m) fun ds m => if ds.length ≤ LIM then .ok (.lst ds) m else .bad
section
variable {x y : Sx} {r : Env} {m : Sto} {s : L2.St} {H H' : Hp} {w : Wi} {E : Ends} {X : Cx} {e : Expr} {es : List Expr} {pos : Pos} {fe : SE} {g : SL}
theorem FinC.shift {Q : VK} {a : R Cell} (st : StE x H y H') (h : FinC w x r s H Q a) : FinC w y r s H' Q a := by
  cases a with
  | ok c m => exact fun v z H2 A R p n t => h v z H2 A R p (fun a ha => ⟨(n a ha).1, (n a ha).2.1, st.st.there a (n a ha).2.2⟩) (st.trans t)
  | exc c v m => exact fun cls d z H2 R p t => h cls d z H2 R p (st.trans t)
  | bad => exact h
theorem dc_val (h : DE X w e fe) : DC X w e (cV fe) := PE.imp h fun s H Q ⟨x, r, m, R, q⟩ => by
  refine ⟨x, r, m, R, ?_⟩
  unfold cV at q
  cases k : fe r m with
  | ok d m' =>
    rw [k] at q
    exact fun v y H' R' p st => q v y H' [] R' (.val p) (fun a ha => by cases ha) st
  | exc c v m' =>
    rw [k] at q
    exact q
  | bad =>
    rw [k] at q
    exact q
theorem dc_own (h : DA X w es g) : DC X w (.List es pos) (cL g) := PE.imp (pe_lst h) fun s H Q ⟨x, r, m, R, q⟩ => by
  show rd PL w g s H _
  refine ⟨x, r, m, R, ?_⟩
  unfold cL at q
  cases k : g r m with
  | ok ds m' =>
    rw [k] at q
    intro vs y H' R' p st
    have q : FinC w x r s H Q (if ds.length ≤ LIM then .ok (.lst ds) m' else .bad) := q
    by_cases hz : ds.length ≤ LIM
    · rw [if_pos hz] at q
      refine ⟨by rw [← Reps.length p, ← lim_eq]; exact hz, fun a ha => ?_⟩
      have haF : y.F a = none := by
        cases e : y.F a with
        | none => rfl
        | some o => rw [R'.sub _ _ e] at ha; cases ha
      have R2 : Rel y r m' s (upd H' a (.lst vs)) := ⟨fun b o e => by rw [upd_ne (ne_of_none (R'.sub _ _ e) ha)]; exact R'.sub _ _ e, R'.vars.mono (.refl _) (.refl _) fun b _ o e => by rw [upd_ne (ne_of_none e ha)]; exact e,
        R'.sto.mono (.refl _) (.refl _) fun b _ o e => by rw [upd_ne (ne_of_none e ha)]; exact e, R'.nd, R'.nF⟩
      refine q (.ref a) y (upd H' a (.lst vs)) [a] R2 (.lst upd_same p) (fun b hb => ?_) (st.trans ⟨⟨.refl _, .refl _, fun b o e _ => by rw [upd_ne (ne_of_none e ha)]; exact e, fun b e => ?_, fun b h1 h2 => absurd h1 h2, fun b h => .inl h⟩, rfl⟩)
      · have e := List.mem_singleton.mp hb
        subst e
        exact ⟨haF, fun z => R'.there b z ha, st.st.there b ha⟩
      · by_cases hb : b = a
        · subst hb
          exact ha
        · rw [upd_ne hb] at e
          exact e
    · rw [if_neg hz] at q
      exact q.elim
  | exc c v m' =>
    rw [k] at q
    exact q
  | bad =>
    rw [k] at q
    exact q
/-- a cell within a statement -/
theorem rdC_bindS {f : SCe} {k : Cell → Sto → Fl} {K : VK} (R : Rel x r m s H) (h : FinS w x H E (bindS r (f r m) k))
    (kk : ∀ c m' v y H' A, Rel y r m' s H' → CellR y.F y.io H' c v A → (∀ a ∈ A, y.F a = none ∧ a ∉ y.A1 ++ y.A2 ∧ H a = none) → StE x H y H' → FinS w x H E (k c m') → K v H') : rdC w f s H K := by
  refine ⟨x, r, m, R, ?_⟩
  cases e : f r m with
  | ok a m' =>
    rw [e] at h
    exact fun v y H' A R' p n st => kk a m' v y H' A R' p n st h
  | exc c v m' =>
    rw [e] at h
    exact fun cls d y H' R' p st => h cls d s y H' R' p st.toS
  | bad =>
    rw [e] at h
    exact h
theorem CellR.stay {c : Cell} {v : V} {A : List Addr} (h : CellR x.F x.io H c v A) (hA : ∀ a ∈ A, x.F a = none ∧ a ∉ x.A1 ++ x.A2) (st : StE x H y H') : CellR y.F y.io H' c v A ∧ ∀ a ∈ A, y.F a = none ∧ a ∉ y.A1 ++ y.A2 := by
  have no : ∀ a ∈ A, a ∉ x.A2 := fun a ha z => (hA a ha).2 (List.mem_append_right _ z)
  refine ⟨h.mono st.st.F st.st.io fun b hb o e => st.st.keep b o e (no b hb), fun a ha => ⟨?_, fun z => ?_⟩⟩
  · cases e : y.F a with
    | none => rfl
    | some o =>
      rcases st.st.newF a (hA a ha).1 (by rw [e]; exact fun z => by cases z) with z | z
      · exact absurd z (h.there a ha)
      · exact absurd z (no a ha)
  · rcases List.mem_append.mp z with z | z
    · rw [st.a1] at z
      exact (hA a ha).2 (List.mem_append_left _ z)
    · rcases st.st.newA a z with z | z
      · exact no a ha z
      · exact h.there a ha z
theorem StS.put {z : Sx} {A : List Addr} (st : StE x H y H') (e1 : z.F = y.F) (e2 : z.io = y.io) (e3 : z.A2 = y.A2) (e4 : ∀ b ∈ z.A1, b ∈ y.A1 ∨ b ∈ A) (hA : ∀ a ∈ A, H a = none) : StS x H z H' := by
  have t := st.toS
  refine ⟨⟨by rw [e1]; exact t.st.F, by rw [e2]; exact t.st.io, t.st.keep, t.st.there, by rw [e1]; exact t.st.newF, by rw [e3]; exact t.st.newA⟩, fun b hb => ?_⟩
  rcases e4 b hb with h | h
  · exact t.a1 b h
  · exact .inr (.inr (hA b h))
/-- x = e -/
def sSet (i : Nat) (f : SCe) : SS := fun r m => bindS r (f r m) fun c m => .nx (r.set i (some c)) m
theorem ds_set {i : Nat} {n : Str} {f : SCe} {pos' : Pos} (hN : X.N.Nodup) (hi : X.N[i]? = some n) (hx : Loc X.env.scope n) (he : DC X w e f) (hs : swapsWith e (some (.Name n pos')) pos.line X.env = pure false := by rfl) (hf : X.fn n = true ∨ X.env.scope.names.lookup n = some .local := by first | exact .inl rfl | exact .inr rfl | assumption) :
    DS X w (.Assign [.Name n pos'] e pos) (sSet i f) := PS.imp (ps_set hN hi hx he hs hf) fun E s H ⟨x, r, m, R, q⟩ => by
  refine rdC_bindS R q fun c m1 v y H1 A R1 hc hA st q1 => ?_
  obtain ⟨z, R2, e1, e2, e3, e4⟩ := R1.put i hc fun a ha => ⟨(hA a ha).1, (hA a ha).2.1⟩
  exact q1 _ z H1 R2 (StS.put st e1 e2 e3 e4 fun a ha => (hA a ha).2.2)
end
end Dl
/-! The data layer: targets, pairs, lists that grow, loops. -/
namespace Dl
open PySem PySem.Spec PyProof.Rows L2 TL
section
variable {x y : Sx} {r : Env} {m : Sto} {s : L2.St} {H H' : Hp} {w : Wi} {E : Ends} {X : Cx} {e a b c : Expr} {es : List Expr} {pos : Pos} {fe : SE} {g : SL}

/-! ### a, b = e1, e2 -/
/-- a cell that waits to be stored: its places are nobody's, and were none at the start -/
structure Wait (H0 : Hp) (y : Sx) (H : Hp) (c : Cell) (v : V) (A : List Addr) : Prop where
  rep : CellR y.F y.io H c v A
  own : ∀ a ∈ A, y.F a = none ∧ a ∉ y.A1 ++ y.A2
  new : ∀ a ∈ A, H0 a = none
theorem Wait.stay {H0 : Hp} {c : Cell} {v : V} {A : List Addr} (h : Wait H0 x H c v A) (st : StE x H y H') : Wait H0 y H' c v A :=
  let ⟨p, q⟩ := h.rep.stay h.own st
  ⟨p, q, h.new⟩
theorem rdC_bindW {f : SCe} {k : Cell → Sto → Fl} {K : VK} {x0 : Sx} {H0 : Hp} (st0 : StE x0 H0 x H) (R : Rel x r m s H) (h : FinS w x0 H0 E (bindS r (f r m) k))
    (kk : ∀ c m' v y H' A, Rel y r m' s H' → Wait H0 y H' c v A → (∀ a ∈ A, H a = none) → StE x H y H' → StE x0 H0 y H' → FinS w x0 H0 E (k c m') → K v H') : rdC w f s H K := by
  refine ⟨x, r, m, R, ?_⟩
  cases e : f r m with
  | ok a m' =>
    rw [e] at h
    exact fun v y H' A R' p n st => kk a m' v y H' A R' ⟨p, fun a ha => ⟨(n a ha).1, (n a ha).2.1⟩, fun a ha => st0.st.there a (n a ha).2.2⟩ (fun a ha => (n a ha).2.2) st (st0.trans st) h
  | exc c v m' =>
    rw [e] at h
    exact fun cls d y H' R' p st => h cls d s y H' R' p (st0.trans st).toS
  | bad =>
    rw [e] at h
    exact h
/-- stored, what else waits goes on waiting -/
theorem Rel.store {H0 : Hp} {c : Cell} {v : V} {A : List Addr} {x0 : Sx} (st : StE x0 H0 x H ∨ StS x0 H0 x H) (R : Rel x r m s H) (h : Wait H0 x H c v A) (i : Nat) :
    ∃ y, Rel y (r.set i (some c)) m (s.set i (some v)) H ∧ StS x0 H0 y H ∧ ∀ d u B, Wait H0 x H d u B → (∀ b ∈ B, b ∉ A) → Wait H0 y H d u B := by
  obtain ⟨y, R', e1, e2, e3, e4⟩ := R.put i h.rep h.own
  have t : StS x0 H0 x H := st.elim StE.toS id
  refine ⟨y, R', ⟨⟨by rw [e1]; exact t.st.F, by rw [e2]; exact t.st.io, t.st.keep, t.st.there, by rw [e1]; exact t.st.newF, by rw [e3]; exact t.st.newA⟩, fun b hb => ?_⟩, fun d u B hw hd => ⟨by rw [e1, e2]; exact hw.rep, fun b hb => ⟨by rw [e1]; exact (hw.own b hb).1, fun z => ?_⟩, hw.new⟩⟩
  · rcases e4 b hb with z | z
    · exact t.a1 b z
    · exact .inr (.inr (h.new b z))
  · rcases List.mem_append.mp z with z | z
    · rcases e4 b z with z | z
      · exact (hw.own b hb).2 (List.mem_append_left _ z)
      · exact hd b hb z
    · rw [e3] at z
      exact (hw.own b hb).2 (List.mem_append_right _ z)
theorem apart {c : Cell} {v : V} {A B : List Addr} (h : CellR x.F x.io H c v A) (hB : ∀ b ∈ B, H b = none) : ∀ b ∈ B, b ∉ A := fun b hb z => h.there b z (hB b hb)
def sPar (i j : Nat) (f g : SCe) : SS := fun r m => bindS r (f r m) fun c m => bindS r (g r m) fun d m => .nx ((r.set i (some c)).set j (some d)) m
theorem ds_par {i j : Nat} {n k : Str} {f h : SCe} {px py pt : Pos} {kt k2 : Nat} {pt2 : Pos} (hc : X.calm = true) (hN : X.N.Nodup) (hi : X.N[i]? = some n) (hj : X.N[j]? = some k) (hij : i ≠ j)
    (hx : X.env.scope.names.lookup n = some .local) (hy : X.env.scope.names.lookup k = some .local) (ha : DC X w a f) (hb : DC X w b h)
    (hw : swappedStores [.Tuple [.Name n px, .Name k py] kt pt] (.Tuple [a, b] k2 pt2) X.env = pure (some [n, k]))
    (hs : swapsWithSole [.Tuple [.Name n px, .Name k py] kt pt] (.Tuple [a, b] k2 pt2) pos.line X.env = pure false := by rfl) (h1 : starEach [a, b] X.env = (false, eval a X.env) :: starEach [b] X.env := by rfl) (h2 : starEach [b] X.env = [(false, eval b X.env)] := by rfl) :
    DS X w (.Assign [.Tuple [.Name n px, .Name k py] kt pt] (.Tuple [a, b] k2 pt2) pos) (sPar i j f h) :=
  PS.imp (ps_par hc hN hi hj hij hx hy (pa_cons ha (pa_cons hb pa_nil h2) h1) hw hs) fun E s H ⟨x, r, m, R, q⟩ => by
    refine rdC_bindW .refl R q fun c m1 v y H1 A R1 hc hA st st0 q1 => ?_
    refine rdC_bindW st0 R1 q1 fun d m2 u z H2 B R2 hd hB st2 st02 q2 => ?_
    refine ⟨v, u, rfl, ?_⟩
    obtain ⟨t, R3, st3, wt⟩ := R2.store (.inl st02) (hc.stay st2) i
    obtain ⟨o, R4, st4, _⟩ := R3.store (.inr st3) (wt _ _ _ hd (apart hc.rep hB)) j
    exact q2 _ o H2 R4 st4
def sPar3 (i j l : Nat) (f g h : SCe) : SS := fun r m => bindS r (f r m) fun c m => bindS r (g r m) fun d m => bindS r (h r m) fun k m => .nx (((r.set i (some c)).set j (some d)).set l (some k)) m
theorem ds_par3 {i j l : Nat} {n k u : Str} {f h o : SCe} {px py pz pt : Pos} {kt k2 : Nat} {pt2 : Pos} (hc : X.calm = true) (hN : X.N.Nodup) (hi : X.N[i]? = some n) (hj : X.N[j]? = some k) (hl : X.N[l]? = some u) (hij : i ≠ j) (hil : i ≠ l) (hjl : j ≠ l)
    (hx : X.env.scope.names.lookup n = some .local) (hy : X.env.scope.names.lookup k = some .local) (hz : X.env.scope.names.lookup u = some .local) (ha : DC X w a f) (hb : DC X w b h) (hcc : DC X w c o)
    (hw : swappedStores [.Tuple [.Name n px, .Name k py, .Name u pz] kt pt] (.Tuple [a, b, c] k2 pt2) X.env = pure (some [n, k, u]))
    (hs : swapsWithSole [.Tuple [.Name n px, .Name k py, .Name u pz] kt pt] (.Tuple [a, b, c] k2 pt2) pos.line X.env = pure false := by rfl) (h1 : starEach [a, b, c] X.env = (false, eval a X.env) :: starEach [b, c] X.env := by rfl) (h2 : starEach [b, c] X.env = (false, eval b X.env) :: starEach [c] X.env := by rfl) (h3 : starEach [c] X.env = [(false, eval c X.env)] := by rfl) :
    DS X w (.Assign [.Tuple [.Name n px, .Name k py, .Name u pz] kt pt] (.Tuple [a, b, c] k2 pt2) pos) (sPar3 i j l f h o) :=
  PS.imp (ps_par3 hc hN hi hj hl hij hil hjl hx hy hz (pa_cons ha (pa_cons hb (pa_cons hcc pa_nil h3) h2) h1) hw hs) fun E s H ⟨x, r, m, R, q⟩ => by
    refine rdC_bindW .refl R q fun c m1 v y H1 A R1 hc hA st st0 q1 => ?_
    refine rdC_bindW st0 R1 q1 fun d m2 u z H2 B R2 hd hB st2 st02 q2 => ?_
    refine rdC_bindW st02 R2 q2 fun k m3 o t H3 C R3 hk hC st3 st03 q3 => ?_
    refine ⟨v, u, o, rfl, ?_⟩
    have hc2 := hc.stay st2
    obtain ⟨t1, Q1, s1, w1⟩ := R3.store (.inl st03) (hc2.stay st3) i
    obtain ⟨t2, Q2, s2, w2⟩ := Q1.store (.inr s1) (w1 _ _ _ (hd.stay st3) (apart hc.rep hB)) j
    obtain ⟨t3, Q3, s3, _⟩ := Q2.store (.inr s2) (w2 _ _ _ (w1 _ _ _ hk (apart hc2.rep hC)) (apart hd.rep hC)) l
    exact q3 _ t3 H3 Q3 s3

/-! ### targets -/
abbrev Gm := D → Env → Option Env
/-- only these slots are other -/
def Only (ws : List Nat) (s s' : L2.St) : Prop := s'.length = s.length ∧ ∀ j, j ∉ ws → s'[j]? = s[j]?
theorem Only.refl {ws : List Nat} {s : L2.St} : Only ws s s := ⟨rfl, fun _ _ => rfl⟩
theorem Only.trans {ws vs : List Nat} {s s' s2 : L2.St} (a : Only ws s s') (b : Only vs s' s2) : Only (ws ++ vs) s s2 :=
  ⟨b.1.trans a.1, fun j h => (b.2 j fun z => h (List.mem_append_right _ z)).trans (a.2 j fun z => h (List.mem_append_left _ z))⟩
def rdG (ws : List Nat) (f : Gm) : TG := fun v s H Q => ∃ x r m d, Rel x r m s H ∧ Rep x.F x.io d v ∧ match f d r with
  | some r' => ∀ s' y, Rel y r' m s' H → y.F = x.F → y.io = x.io → y.A2 = x.A2 → (∀ b ∈ y.A1, b ∈ x.A1) → Only ws s s' → Q s' H
  | none => False
abbrev DG (X : Cx) (tg : Expr) (ws : List Nat) (f : Gm) : Prop := PG X tg (rdG ws f)
def gN (i : Nat) : Gm := fun d r => some (r.set i (some (.val d)))
theorem dg_name {i : Nat} {n : Str} (hN : X.N.Nodup) (hi : X.N[i]? = some n) (hx : Loc X.env.scope n) (hf : X.fn n = true ∨ X.env.scope.names.lookup n = some .local := by first | exact .inl rfl | exact .inr rfl | assumption) : DG X (.Name n pos) [i] (gN i) :=
  PG.imp (pg_name hN hi hx hf) fun v s H Q ⟨x, r, m, d, R, p, q⟩ => by
    obtain ⟨y, R', e1, e2, e3, e4⟩ := R.putV i p
    exact q _ y R' e1 e2 e3 e4 ⟨List.length_set, fun j h => List.getElem?_set_ne fun e => h (by simp [e])⟩
abbrev Gms := List D → Env → Option Env
def gsNil : Gms := fun l r => match l with
  | [] => some r
  | _ => none
def gsCons (f : Gm) (g : Gms) : Gms := fun l r => match l with
  | d :: l => (f d r).bind (g l)
  | [] => none
def rdGs (ws : List Nat) (f : Gms) : TGs := fun vs s H Q => ∃ x r m ds, Rel x r m s H ∧ Reps x.F x.io ds vs ∧ match f ds r with
  | some r' => ∀ s' y, Rel y r' m s' H → y.F = x.F → y.io = x.io → y.A2 = x.A2 → (∀ b ∈ y.A1, b ∈ x.A1) → Only ws s s' → Q s' H
  | none => False
abbrev DGs (X : Cx) (ts : List Expr) (ws : List Nat) (f : Gms) : Prop := PGs X ts (rdGs ws f)
theorem PGs.imp {es : List Expr} {t t' : TGs} (h : PGs X es t) (k : ∀ v s H Q, t' v s H Q → t v s H Q) : PGs X es t' := ⟨fun pins s σ H v u Q I r q => h.run pins s σ H v u Q I r (k _ _ _ _ q)⟩
theorem dgs_nil : DGs X [] [] gsNil := PGs.imp pgs_nil fun v s H Q ⟨x, r, m, ds, R, p, q⟩ => by
  cases p with
  | nil => exact ⟨rfl, q s x R rfl rfl rfl (fun b h => h) .refl⟩
  | cons _ _ => exact q.elim
theorem dgs_cons {f : Gm} {h : Gms} {ws vs : List Nat} (h1 : DG X e ws f) (h2 : DGs X es vs h) (hs : (assignEach (e :: es) X.env).map (·.2) = assign e X.env :: (assignEach es X.env).map (·.2) := by rfl) : DGs X (e :: es) (ws ++ vs) (gsCons f h) :=
  PGs.imp (pgs_cons h1 h2 hs) fun v s H Q ⟨x, r, m, ds, R, p, q⟩ => by
    cases p with
    | nil => exact q.elim
    | @cons d v ds us rp rt =>
      refine ⟨v, us, rfl, ⟨x, r, m, d, R, rp, ?_⟩⟩
      have q : match (f d r).bind (h ds) with
        | some r' => ∀ s' y, Rel y r' m s' H → y.F = x.F → y.io = x.io → y.A2 = x.A2 → (∀ b ∈ y.A1, b ∈ x.A1) → Only (ws ++ vs) s s' → Q s' H
        | none => False := q
      cases k : f d r with
      | none =>
        rw [k] at q
        exact q.elim
      | some r' =>
        rw [k] at q
        intro s' y R' e1 e2 e3 e4 o1
        refine ⟨y, r', m, ds, R', by rw [e1, e2]; exact rt, ?_⟩
        have q : match h ds r' with
          | some r' => ∀ s' y, Rel y r' m s' H → y.F = x.F → y.io = x.io → y.A2 = x.A2 → (∀ b ∈ y.A1, b ∈ x.A1) → Only (ws ++ vs) s s' → Q s' H
          | none => False := q
        cases k2 : h ds r' with
        | none =>
          rw [k2] at q
          exact q.elim
        | some r2 =>
          rw [k2] at q
          exact fun s2 z R2 g1 g2 g3 g4 o2 => q s2 z R2 (g1.trans e1) (g2.trans e2) (g3.trans e3) (fun b hb => e4 b (g4 b hb)) (o1.trans o2)
def gTup (f : Gms) : Gm := fun d r => match d with
  | .tup l => f l r
  | _ => none
/-- how many a targets' list takes -/
def Takes (f : Gms) (n : Nat) : Prop := ∀ l r, l.length ≠ n → f l r = none
theorem tk_nil : Takes gsNil 0 := fun l r h => by
  cases l with
  | nil => exact absurd rfl h
  | cons _ _ => rfl
theorem tk_cons {f : Gm} {h : Gms} {n : Nat} (t : Takes h n) : Takes (gsCons f h) (n + 1) := fun l r hl => by
  cases l with
  | nil => rfl
  | cons d l =>
    show (f d r).bind (h l) = none
    cases f d r with
    | none => rfl
    | some r' => exact t l r' fun e => hl (by simp [e])
theorem dg_tup {f : Gms} {k n : Nat} {ws : List Nat} (hc : X.calm = true) (h : DGs X es ws f) (t : Takes f n) (hn : (assignEach es X.env).length = n := by rfl) (hst : (assignEach es X.env).findIdx? (·.1) = none := by rfl) : DG X (.Tuple es k pos) ws (gTup f) :=
  PG.imp (pg_tup hc h hn hst) fun v s H Q ⟨x, r, m, d, R, p, q⟩ => by
    cases d with
    | tup l =>
      obtain ⟨a, vs, rfl, hF, hp, rp⟩ := (Pk.of (H := H) p).tup R
      by_cases hl : l.length = n
      · exact ⟨a, vs, rfl, SqT.of hp, by rw [← rp.length]; exact hl, x, r, m, l, R, rp, q⟩
      · have q : match f l r with
          | some r' => ∀ s' y, Rel y r' m s' H → y.F = x.F → y.io = x.io → y.A2 = x.A2 → (∀ b ∈ y.A1, b ∈ x.A1) → Only ws s s' → Q s' H
          | none => False := q
        rw [t l r hl] at q
        exact q.elim
    | _ => exact q.elim
/-- target = e -/
def sAsg (g : Gm) (f : SE) : SS := fun r m => bindS r (f r m) fun d m => match g d r with
  | some r' => .nx r' m
  | none => .bad
theorem rd_target {f : Gm} {ws : List Nat} {E : Ends} {d : D} {v : V} {x0 : Sx} {H0 : Hp} {k : Env → Fl} {K : L2.St → Hp → Prop} (st : StS x0 H0 x H) (R : Rel x r m s H) (p : Rep x.F x.io d v) (q : FinS w x0 H0 E (match f d r with | some r' => k r' | none => .bad))
    (kk : ∀ r' s' y, Rel y r' m s' H → StS x0 H0 y H → FinS w x0 H0 E (k r') → f d r = some r' → K s' H) : rdG ws f v s H K := by
  refine ⟨x, r, m, d, R, p, ?_⟩
  cases e : f d r with
  | none =>
    rw [e] at q
    exact q.elim
  | some r' =>
    rw [e] at q
    exact fun s' y R' e1 e2 e3 e4 _ => kk r' s' y R' (st.trans (.same e1 e2 e3 fun b hb => .inl (e4 b hb))) q e
theorem ds_asg {tg : Expr} {f : Gm} {ws : List Nat} (he : DE X w e fe) (hg : DG X tg ws f) (hs : swapsWithSole [tg] e pos.line X.env = pure false := by rfl) (hw : swappedStores [tg] e X.env = pure none := by rfl)
    (h1 : (assignEach [tg] X.env).map (·.2) = [assign tg X.env] := by rfl) : DS X w (.Assign [tg] e pos) (sAsg f fe) :=
  PS.imp (ps_asg he hg hs hw h1) fun E s H ⟨x, r, m, R, q⟩ => by
    refine rd_bindS R q fun d m1 v y H1 R1 p1 st1 q1 => ?_
    exact rd_target .refl R1 p1 q1 fun r' s' z R2 st2 q2 _ => q2 s' z H1 R2 st2

/-! ### lists that grow -/
/-- x.append(e), x a slot's own list -/
def sApp (i : Nat) (f : SE) : SS := fun r m => match r[i]? with
  | some (some (.lst l)) => bindS r (f r m) fun d m => if l.length < LIM then .nx (r.set i (some (.lst (l ++ [d])))) m else .bad
  | _ => .bad
theorem ds_app {i : Nat} {o : Expr} {p1 p2 : Pos} (ho : PE X o (tVar i)) (ha : DE X w e fe)
    (hs : swapsWith (.Call (.Attribute o "append" p1) [e] [] p2) none pos.line X.env = pure false := by rfl) (hst : starEach [e] X.env = [(false, eval e X.env)] := by rfl)
    (hp : PE X (.Call (.Attribute o "append" p1) [e] [] p2) (tBM X.K "list" rAppend (tVar i) (tCons (rd PV w fe) tNil))) :
    DS X w (.Expr (.Call (.Attribute o "append" p1) [e] [] p2) pos) (sApp i fe) := PS.imp (ps_expr hp hs) fun E s H ⟨x, r, m, R, q⟩ => by
  unfold sApp at q
  split at q
  · rename_i l hl
    obtain ⟨a, vs, es, haA, ha, rp, _⟩ := R.own (l' := []) hl
    refine ⟨.ref a, es, .inl ⟨rfl, vs, SqL.of ha⟩, ?_⟩
    refine rd_bindS R q fun d m1 v y H1 R1 p1 st1 q1 => ?_
    obtain ⟨hz, q1⟩ := FinS.ite q1
    obtain ⟨a', vs', es', haA', ha', rp', up⟩ := R1.own (l' := l ++ [d]) hl
    have e1 : a' = a := by
      rw [es] at es'
      cases es'
      rfl
    subst e1
    refine ⟨a', vs', v, rfl, rfl, ha', by rw [← rp'.length, ← lim_eq]; exact hz, ?_⟩
    obtain ⟨z, R2, st2⟩ := up (vs' ++ [v]) (rp'.append (.cons p1 .nil))
    exact q1 s z _ R2 st2
  · exact q.elim
/-- x.extend(e) -/
def sExt (i : Nat) (f : SE) : SS := fun r m => match r[i]? with
  | some (some (.lst l)) => bindS r (f r m) fun d m => match d with
    | .lst k => if l.length + k.length ≤ LIM then .nx (r.set i (some (.lst (l ++ k)))) m else .bad
    | _ => .bad
  | _ => .bad
theorem ds_ext {i : Nat} {o : Expr} {p1 p2 : Pos} (ho : PE X o (tVar i)) (ha : DE X w e fe)
    (hs : swapsWith (.Call (.Attribute o "extend" p1) [e] [] p2) none pos.line X.env = pure false := by rfl)
    (hp : PE X (.Call (.Attribute o "extend" p1) [e] [] p2) (tBM X.K "list" rExtend (tVar i) (tCons (rd PV w fe) tNil))) :
    DS X w (.Expr (.Call (.Attribute o "extend" p1) [e] [] p2) pos) (sExt i fe) := PS.imp (ps_expr hp hs) fun E s H ⟨x, r, m, R, q⟩ => by
  unfold sExt at q
  split at q
  · rename_i l hl
    obtain ⟨a, vs, es, haA, ha, rp, _⟩ := R.own (l' := []) hl
    refine ⟨.ref a, es, .inl ⟨rfl, vs, SqL.of ha⟩, ?_⟩
    refine rd_bindS R q fun d m1 v y H1 R1 p1 st1 q1 => ?_
    cases d with
    | lst k =>
      obtain ⟨hz, q1⟩ := FinS.ite q1
      obtain ⟨a', vs', es', haA', ha', rp', up⟩ := R1.own (l' := l ++ k) hl
      have e1 : a' = a := by
        rw [es] at es'
        cases es'
        rfl
      subst e1
      obtain ⟨b, us, rfl, hb, rb⟩ := (Pk.of (H := H1) p1).lst R1
      refine ⟨a', b, vs', us, rfl, rfl, ha', hb, by rw [← rp'.length, ← rb.length, ← lim_eq]; exact hz, ?_⟩
      obtain ⟨z, R2, st2⟩ := up (vs' ++ us) (rp'.append rb)
      exact q1 s z _ R2 st2
    | _ => exact q1.elim
  · exact q.elim
/-- x[k] = e, x a slot's own list -/
def sPutL (i : Nat) (k f : SE) : SS := fun r m => bindS r (f r m) fun d m => match r[i]? with
  | some (some (.lst l)) => bindS r (k r m) fun j m => match j with
    | .int j => match ixN l.length j with
      | some n => .nx (r.set i (some (.lst (l.set n d)))) m
      | none => .bad
    | _ => .bad
  | _ => .bad

/-! ### loops -/
/-- what a loop walks: at turn i it gives the i-th -/
inductive Yl (F : Hp) (io : List Addr) (H : Hp) : D → V → Hp → Prop
  | here {d : D} {v : V} : Rep F io d v → Yl F io H d v H
  | new {T : Addr} {ds : List D} {vs : List V} : H T = none → Reps F io ds vs → Yl F io H (.tup ds) (.ref T) (upd H T (.tup vs))
structure Serves (F : Hp) (io : List Addr) (J : It) (ds : List D) : Prop where
  go : ∀ F' H i, Sub F F' → Sub F' H → i < ds.length → J.go i H
  stop : ∀ F' H, Sub F F' → Sub F' H → J.stop ds.length H
  yld : ∀ F' io' H i d v H', Sub F F' → Pfx io io' → Sub F' H → ds[i]? = some d → J.yld i H v H' → Yl F' io' H d v H'
def PIt : PP (List D) It := fun x _ ds J => Serves x.F x.io J ds
abbrev DI (X : Cx) (w : Wi) (tg iter : Expr) (f : SL) : Prop := PI X tg iter (rd PIt w f)
theorem Serves.mono {F F' : Hp} {io io' : List Addr} {J : It} {ds : List D} (h : Serves F io J ds) (hF : Sub F F') (hi : Pfx io io') : Serves F' io' J ds :=
  ⟨fun G H i a b c => h.go G H i (hF.trans a) b c, fun G H a b => h.stop G H (hF.trans a) b, fun G jo H i d v H' a b c e k => h.yld G jo H i d v H' (hF.trans a) (hi.trans b) c e k⟩
theorem Serves.of_walk {F : Hp} {io : List Addr} {J : It} {ds : List D} {n : Nat} {G : Hp → Prop} {Y : Nat → Hp → V → Hp → Prop} (wk : Walk J n G Y) (hn : n = ds.length) (hG : ∀ F' H, Sub F F' → Sub F' H → G H)
    (hY : ∀ F' io' H i d v H', Sub F F' → Pfx io io' → Sub F' H → ds[i]? = some d → Y i H v H' → Yl F' io' H d v H') : Serves F io J ds :=
  ⟨fun F' H i a b c => wk.goes i H (by omega) (hG F' H a b), fun F' H a b => hn ▸ wk.stops H (hG F' H a b), fun F' io' H i d v H' a b c e k => hY F' io' H i d v H' a b c e (wk.yields i H v H' (by
    have := (List.getElem?_eq_some_iff.mp e).1
    omega) (hG F' H a c) k)⟩
/-- a thing that a loop gives is taken into the state -/
theorem Rel.yl {d : D} {v : V} (R : Rel x r m s H) (h : Yl x.F x.io H d v H') : ∃ y, Rel y r m s H' ∧ Rep y.F y.io d v ∧ StE x H y H' := by
  cases h with
  | here p => exact ⟨x, R, p, .refl⟩
  | new hT p => exact ⟨_, R.new hT, .tup upd_same (p.up R hT), .new R hT⟩
def forL (g : Gm) (b : SS) : List D → SS
  | [], r, m => .nx r m
  | d :: l, r, m => match g d r with
    | some r' => match b r' m with
      | .nx r m => forL g b l r m
      | .ct r m => forL g b l r m
      | .bk r m => .nx r m
      | .rt d m => .rt d m
      | .exc c v r m => .exc c v r m
      | .bad => .bad
    | none => .bad
def sFor (f : SL) (g : Gm) (b : SS) : SS := fun r m => bindS r (f r m) fun l m => forL g b l r m
theorem ds_for {ws : List Nat} {tg iter : Expr} {body : List Stmt} {f : SL} {g : Gm} {b : SS} (hp : PassesOwn (model X.prog X.w) X.A X.env X.xe) (hc : X.calm = true) (hi : DI X w tg iter f) (hg : DG X tg ws g) (hb : DSs X w body b)
    (hs : ∀ x, foldedSetIterable iter X.env x = pure x := by intro _; rfl) : DS X w (.For tg iter body [] pos) (sFor f g b) :=
  PS.imp (ps_for hp hc hi hg hb hs) fun E s0 H0 ⟨x0, r0, m0, R0, q0⟩ => by
    refine rd_bindS R0 q0 fun ds m1 J y1 H1 R1 sv st1 q1 => ?_
    -- the state before turn i: what is left to do answers
    refine ⟨fun i n s H => n = ds.length - i ∧ i ≤ ds.length ∧ ∃ y r m, Rel y r m s H ∧ StS y1 H1 y H ∧ FinS w y1 H1 E (forL g b (ds.drop i) r m), ⟨ds.length, by simp, Nat.zero_le _, y1, r0, m1, R1, .refl, q1⟩, ?_⟩
    rintro i n s H ⟨rfl, hi, y, r, m, R, st, q⟩
    by_cases hlt : i < ds.length
    · refine .inr ⟨sv.go y.F H i st.st.F R.sub hlt, fun s' H' => ∃ y' r' m', Rel y' r' m' s' H' ∧ StS y1 H1 y' H' ∧ FinS w y1 H1 E (forL g b (ds.drop (i + 1)) r' m'), fun s' H' ⟨y', r', m', R', st', q'⟩ => ⟨ds.length - (i + 1), by omega, rfl, hlt, y', r', m', R', st', q'⟩, fun v H' hy => ?_⟩
      have hd : ds.drop i = ds[i] :: ds.drop (i + 1) := List.drop_eq_getElem_cons hlt
      rw [hd] at q
      obtain ⟨z, Rz, pz, stz⟩ := R.yl (sv.yld y.F y.io H i ds[i] v H' st.st.F st.st.io R.sub (List.getElem?_eq_getElem hlt) hy)
      have q : FinS w y1 H1 E (match g ds[i] r with
        | some r' => match b r' m with
          | .nx r m => forL g b (ds.drop (i + 1)) r m
          | .ct r m => forL g b (ds.drop (i + 1)) r m
          | .bk r m => .nx r m
          | .rt d m => .rt d m
          | .exc c v r m => .exc c v r m
          | .bad => .bad
        | none => .bad) := q
      have q' : FinS w y1 H1 E (match g ds[i] r with
        | some r' => (fun r' => match b r' m with
          | .nx r m => forL g b (ds.drop (i + 1)) r m
          | .ct r m => forL g b (ds.drop (i + 1)) r m
          | .bk r m => .nx r m
          | .rt d m => .rt d m
          | .exc c v r m => .exc c v r m
          | .bad => .bad) r'
        | none => .bad) := q
      refine rd_target (st.trans stz.toS) Rz pz q' fun r' s' u R2 st2 q2 _ => ?_
      refine ⟨u, r', m, R2, ?_⟩
      cases k : b r' m with
      | nx r3 m3 =>
        rw [k] at q2
        exact fun s3 t H3 R3 st3 => ⟨t, r3, m3, R3, st2.trans st3, q2⟩
      | ct r3 m3 =>
        rw [k] at q2
        exact fun s3 t H3 R3 st3 => ⟨t, r3, m3, R3, st2.trans st3, q2⟩
      | bk r3 m3 =>
        rw [k] at q2
        exact fun s3 t H3 R3 st3 => q2 s3 t H3 R3 (st2.trans st3)
      | rt d m3 =>
        rw [k] at q2
        exact fun v3 t H3 R3 p3 st3 => q2 v3 t H3 R3 p3 (st2.trans st3)
      | exc c v3 r3 m3 =>
        rw [k] at q2
        exact fun cls d3 s3 t H3 R3 p3 st3 => q2 cls d3 s3 t H3 R3 p3 (st2.trans st3)
      | bad =>
        rw [k] at q2
        exact q2.elim
    · have e : i = ds.length := by omega
      subst e
      refine .inl ⟨sv.stop y.F H st.st.F R.sub, ?_⟩
      rw [List.drop_length] at q
      exact q s y H R st
/-- while: so many turns at the most -/
def whileN (t : SB) (b : SS) : Nat → SS
  | 0, _, _ => .bad
  | n + 1, r, m => bindS r (t r m) fun c m => if c = true then (match b r m with
      | .nx r m => whileN t b n r m
      | .ct r m => whileN t b n r m
      | .bk r m => .nx r m
      | .rt d m => .rt d m
      | .exc c v r m => .exc c v r m
      | .bad => .bad) else .nx r m
theorem ds_while {c : Expr} {body : List Stmt} {t : SB} {b : SS} (n : Nat) (hp : PassesOwn (model X.prog X.w) X.A X.env X.xe) (hc : DT X w c t) (hb : DSs X w body b) : DS X w (.While c body [] pos) (whileN t b n) :=
  PS.imp (ps_while hp hc hb) fun E s0 H0 ⟨x0, r0, m0, R0, q0⟩ => by
    refine ⟨fun n s H => ∃ y r m, Rel y r m s H ∧ FinS w y H E (whileN t b n r m), ⟨n, x0, r0, m0, R0, q0⟩, ?_⟩
    rintro n s H ⟨y, r, m, R, q⟩
    cases n with
    | zero => exact q.elim
    | succ n =>
      have q : FinS w y H E (bindS r (t r m) fun c m => if c = true then (match b r m with
        | .nx r m => whileN t b n r m
        | .ct r m => whileN t b n r m
        | .bk r m => .nx r m
        | .rt d m => .rt d m
        | .exc c v r m => .exc c v r m
        | .bad => .bad) else .nx r m) := q
      refine rd_bindS R q fun k m1 v z H1 R1 p1 st1 q1 => ?_
      cases p1
      cases k with
      | false =>
        rw [if_neg Bool.false_ne_true] at q1 ⊢
        exact FinS.here R1 q1
      | true =>
        rw [if_pos rfl] at q1 ⊢
        refine ⟨fun s' H' => ∃ y r m, Rel y r m s' H' ∧ FinS w y H' E (whileN t b n r m), fun s' H' ⟨y', r', m', R', q'⟩ => ⟨n, Nat.lt_succ_self _, y', r', m', R', q'⟩, z, r, m1, R1, ?_⟩
        cases k : b r m1 with
        | nx r3 m3 =>
          rw [k] at q1
          exact fun s3 t3 H3 R3 st3 => ⟨t3, r3, m3, R3, FinS.shift st3 q1⟩
        | ct r3 m3 =>
          rw [k] at q1
          exact fun s3 t3 H3 R3 st3 => ⟨t3, r3, m3, R3, FinS.shift st3 q1⟩
        | bk r3 m3 =>
          rw [k] at q1
          exact q1
        | rt d m3 =>
          rw [k] at q1
          exact q1
        | exc c v3 r3 m3 =>
          rw [k] at q1
          exact q1
        | bad =>
          rw [k] at q1
          exact q1
end
end Dl
/-! The data layer: what is walked: lists, tuples, texts, ranges, zip of two and of three, enumerate. -/
namespace Dl
open PySem PySem.Spec PyProof.Rows L2 TL

/-- what stands and can be walked -/
inductive SrcK where
  | lst (a : Addr) (xs : List V)
  | tup (a : Addr) (xs : List V)
  | txt (z : Str)
namespace SrcK
def val : SrcK → V
  | .lst a _ => .ref a
  | .tup a _ => .ref a
  | .txt z => .str z
def isIn (H : Hp) : SrcK → Prop
  | .lst a xs => H a = some (.lst xs)
  | .tup a xs => H a = some (.tup xs)
  | .txt _ => True
def n : SrcK → Nat
  | .lst _ xs => xs.length
  | .tup _ xs => xs.length
  | .txt z => z.cps.size
def at' (i : Nat) : SrcK → Option V
  | .lst _ xs => xs[i]?
  | .tup _ xs => xs[i]?
  | .txt z => z.cps[i]?.map fun c => .str ⟨#[c]⟩
def it (it : Addr) (i : Nat) (h : Heap) : SrcK → Prop
  | .lst a _ => h.IsListIter it a i
  | .tup a _ => h.IsTupleIter it a i
  | .txt z => ∃ t, h.IsStrIter it (strIterType z) z t i
end SrcK
theorem SrcK.it_keep {k : SrcK} {it : Addr} {i : Nat} {h h' : Heap} (st : k.it it i h) (q : ∀ o, h.get? it = some o → h'.get? it = some o) : k.it it i h' := by
  cases k with
  | lst a xs => exact Heap.IsListIter.at st fun o e => q o e
  | tup a xs => exact Heap.IsTupleIter.at st fun o e => q o e
  | txt z => obtain ⟨t, o, ho, r⟩ := st; exact ⟨t, o, q o ho, r⟩
theorem SrcK.it_obj {k : SrcK} {it : Addr} {i : Nat} {h : Heap} (st : k.it it i h) : ∃ o, h.get? it = some o ∧ ∀ v, o.data ≠ .cell v := by
  cases k with
  | lst a xs => obtain ⟨o, e, _, d⟩ := st; exact ⟨o, e, fun v q => by rw [d] at q; cases q⟩
  | tup a xs => obtain ⟨o, e, _, d⟩ := st; exact ⟨o, e, fun v q => by rw [d] at q; cases q⟩
  | txt z => obtain ⟨t, o, e, _, d⟩ := st; exact ⟨o, e, fun v q => by rw [d] at q; cases q⟩
theorem vals_getU : ∀ {xs : List V} {us : List Value} {i : Nat} {u : Value}, Vals xs us → us[i]? = some u → ∃ v, xs[i]? = some v ∧ RelV v u
  | _, _, _, _, .nil, e => by simp at e
  | _, _, 0, _, .cons r _, e => by simp at e; subst e; exact ⟨_, rfl, r⟩
  | _, _, i + 1, u, .cons _ t, e => by
    obtain ⟨v, h1, h2⟩ := vals_getU (i := i) (u := u) t (by simpa using e)
    exact ⟨v, by simpa using h1, h2⟩
section
variable {X : Cx} {pins : List (Addr × Obj)} {σ : L2.St} {H : Hp} {s : Shared}
structure SrcDraws (X : Cx) (k : SrcK) (H : Hp) (h : Heap) (it : Addr) (i : Nat) (A : Around) : Prop where
  ex : ∃ (sf : List Addr) (P : Nat → Value → Prop) (St : Nat → Heap → Prop), Draws X.prog X.w A it (it :: sf) k.n P St ∧ St i h ∧ (∀ j h', St j h' → k.it it j h') ∧ (∀ j u, P j u → ∃ v, k.at' j = some v ∧ RelV v u) ∧ ∀ b ∈ sf, H b ≠ none
theorem SrcK.draws (k : SrcK) (I : Inv X pins σ H s) {A : Around} (hh : A.handled = none) (hin : k.isIn H) {it : Addr} {i : Nat} (hit : H it = none) (st : k.it it i s.heap) : SrcDraws X k H s.heap it i A := by
  cases k with
  | lst a xs =>
    have hin : H a = some (.lst xs) := hin
    obtain ⟨its, rv, p, hz⟩ := I.list (.of hin)
    have hne : a ≠ it := fun e => by rw [e, hit] at hin; cases hin
    have hl : its.toArray.size = xs.length := by rw [List.size_toArray, rv.length]
    refine ⟨[a], _, _, hl ▸ Draws.list hh it a hne its.toArray, ⟨st, p.isList⟩, fun j h' q => q.1, fun j u q => ?_, fun b hb => ?_⟩
    · have q : its.toArray[j]? = some u := q
      have q : its[j]? = some u := by simpa using q
      exact vals_getU rv q
    · have e : b = a := by simpa using hb
      rw [e, hin]
      exact fun z => by cases z
  | tup a xs =>
    have hin : H a = some (.tup xs) := hin
    obtain ⟨its, rv, p, hz⟩ := I.tuple (.of hin)
    have hne : a ≠ it := fun e => by rw [e, hit] at hin; cases hin
    have hl : its.toArray.size = xs.length := by rw [List.size_toArray, rv.length]
    refine ⟨[a], _, _, hl ▸ Draws.tuple hh it a hne its.toArray, ⟨st, p⟩, fun j h' q => q.1, fun j u q => ?_, fun b hb => ?_⟩
    · have q : its.toArray[j]? = some u := q
      have q : its[j]? = some u := by simpa using q
      exact vals_getU rv q
    · have e : b = a := by simpa using hb
      rw [e, hin]
      exact fun z => by cases z
  | txt z =>
    obtain ⟨t, st⟩ := st
    refine ⟨[], _, _, Draws.text hh it z t, st, fun j h' q => ⟨t, q⟩, fun j u q => ?_, fun b hb => by cases hb⟩
    obtain ⟨c, tk, e, rfl⟩ := q
    exact ⟨.str ⟨#[c]⟩, by simp [SrcK.at', e], ⟨tk, rfl⟩⟩
/-- an item of an iterator that gives new tuples -/
theorem item_new {tg : Expr} {I0 : Addr} {fp ffp wr : List Addr} {n i : Nat} {Y : Nat → Heap → Value → Heap → Prop} {S : Nat → Heap → Prop} {tn : Heap → Prop} {K : V → Hp → Prop} {E : Value → Shared → Prop} (G : GoesN X.prog X.w X.A tg I0 ffp wr n Y S) (hi : i < n) (st : S i s.heap)
    (I : Inv X pins σ H s) (hf : ∀ b ∈ fp, FpOk X pins H b) (hl : ∀ b ∈ fp, b < s.heap.objs.size) (hw : ∀ b ∈ wr, b ∈ fp) (hst : ∀ h', S (i + 1) h' → tn h')
    (hY : ∀ v h', Y i s.heap v h' → ∃ (T : Addr) (us : List Value) (vs : List V), v = .ref T ∧ s.heap.objs.size ≤ T ∧ Vals vs us ∧ vs.length ≤ sizeLine ∧ IsTup h' T us.toArray ∧ ∀ (hT : H T = none), K (.ref T) (upd H T (.tup vs))) :
    wpAny (model X.prog X.w) X.A (pyNext (.ref I0)) (fun r s1 => ∃ u, r = some u ∧
      wpAny (model X.prog X.w) X.A (letOwnedTupleGo tg (.ref I0) u) (fun _ s2 => ∃ x H', Inv X pins σ H' s2 ∧ RelV x u ∧ K x H' ∧ tn s2.heap ∧ ∀ b ∈ fp, H' b = none) E s1) E s := by
  refine G.goes i s (fun v s2 => ∃ x H', Inv X pins σ H' s2 ∧ RelV x v ∧ K x H' ∧ tn s2.heap ∧ ∀ b ∈ fp, H' b = none) E hi st fun v h' tk hy st' hk htk => ?_
  obtain ⟨T, us, vs, rfl, hT, rv, hz, p, k⟩ := hY v h' hy
  have hn : H T = none := I.hok.fresh hT
  have new : ObjOk X.prog X.w (upd H T (.tup vs)) h' T (.tup vs) := ⟨hz, us, rv, p⟩
  refine ⟨.ref T, _, I.turnedNew (t' := tk) (ch := fp) (fun b o hb e => hk b o (fun z => hb (hw b z)) e) hf hT new, rfl, k hn, hst h' st', fun b hb => ?_⟩
  rw [upd_ne (Nat.ne_of_lt (Nat.lt_of_lt_of_le (hl b hb) hT))]
  exact (hf b hb).1
theorem done_new {tg : Expr} {I0 : Addr} {fp ffp wr : List Addr} {n : Nat} {Y : Nat → Heap → Value → Heap → Prop} {S : Nat → Heap → Prop} {E : Value → Shared → Prop} (G : GoesN X.prog X.w X.A tg I0 ffp wr n Y S) (st : S n s.heap)
    (I : Inv X pins σ H s) (hf : ∀ b ∈ fp, FpOk X pins H b) (hw : ∀ b ∈ wr, b ∈ fp) :
    wpAny (model X.prog X.w) X.A (pyNext (.ref I0)) (fun r s1 => r = none ∧ Inv X pins σ H s1) E s :=
  G.stops s (fun s1 => Inv X pins σ H s1) E st fun h' tk hk htk => I.turnedL (t' := tk) (ch := fp) (fun b o hb e => hk b o (fun z => hb (hw b z)) e) hf
end

/-! ### zip of two -/
def ItZ2 (k1 k2 : SrcK) : It :=
  ⟨fun i H => i < min k1.n k2.n ∧ k1.isIn H ∧ k2.isIn H, fun i H v H' => ∃ T x y, v = .ref T ∧ H T = none ∧ H' = upd H T (.tup [x, y]) ∧ k1.at' i = some x ∧ k2.at' i = some y, fun i H => i = min k1.n k2.n ∧ k1.isIn H ∧ k2.isIn H⟩
theorem turn_zip2 {P : Program} {w : World} {K : PySem.W.Frag} {elts : List Expr} {kk : Nat} {tpos : Pos} {z TI TO i1 i2 : Addr} {k1 k2 : SrcK} (h1 : TI ≠ z) (h2 : TO ≠ z) (h3 : TI ≠ TO) (h4 : TI ≠ i1) (h5 : TI ≠ i2) (h6 : z ≠ i1) (h7 : TO ≠ i1) (h8 : z ≠ i2) (h9 : TO ≠ i2) (h10 : i1 ≠ i2) :
    Turn P w K (.Tuple elts kk tpos) (ItZ2 k1 k2) [z, TI, TO, i1, i2] z (fun i h => IsZip h z TI TO .none ∧ IsTupOf2 h TI (.ref i1) (.ref i2) ∧ (∃ x y, IsTupOf2 h TO x y) ∧ k1.it i1 i h ∧ k2.it i2 i h) := by
  have sep : ∀ {X : Cx} {pins : List (Addr × Obj)} {H : Hp} {sf1 sf2 : List Addr}, (∀ b ∈ [z, TI, TO, i1, i2], FpOk X pins H b) → (∀ b ∈ sf1, H b ≠ none) → (∀ b ∈ sf2, H b ≠ none) → ZipSep2 z TI TO i1 i2 (i1 :: sf1) (i2 :: sf2) := fun {X pins H sf1 sf2} hf n1 n2 => by
    have nin : ∀ {b j : Addr} {sf : List Addr}, b ∈ [z, TI, TO, i1, i2] → (∀ c ∈ sf, H c ≠ none) → b ≠ j → b ∉ j :: sf := fun {b j sf} hb hn hj hm => by
      rcases List.mem_cons.mp hm with q | q
      · exact hj q
      · exact hn b q (hf b hb).1
    exact { TIz := h1, TOz := h2, TITO := h3, TIi1 := h4, mem1 := List.mem_cons_self .., zf1 := nin (by simp) n1 h6, Tf1 := nin (by simp) n1 h7, TIi2 := h5, mem2 := List.mem_cons_self .., zf2 := nin (by simp) n2 h8, Tf2 := nin (by simp) n2 h9, sep1_2 := nin (by simp) n2 h10, sep2_1 := nin (by simp) n1 (Ne.symm h10) }
  refine ⟨by simp, fun i h st c hc => ?_, fun i h h' st k => ?_, ?_, ?_, fun A i s Q E st h => wpAny_pyIter_zip st.1 h⟩
  · obtain ⟨hz, hTI, ⟨x, y, hTO⟩, g1, g2⟩ := st
    have e' : c = z ∨ c = TI ∨ c = TO ∨ c = i1 ∨ c = i2 := by simpa using hc
    rcases e' with q | q | q | q | q
    · rw [q]; exact ⟨_, hz, fun v q => nomatch q⟩
    · rw [q]; exact ⟨_, hTI, fun v q => nomatch q⟩
    · rw [q]; exact ⟨_, hTO, fun v q => nomatch q⟩
    · rw [q]; exact (SrcK.it_obj g1)
    · rw [q]; exact (SrcK.it_obj g2)
  · obtain ⟨hz, hTI, ⟨x, y, hTO⟩, g1, g2⟩ := st
    exact ⟨k z (by simp) _ hz, k TI (by simp) _ hTI, ⟨x, y, k TO (by simp) _ hTO⟩, (SrcK.it_keep g1) fun o q => k i1 (by simp) o q, (SrcK.it_keep g2) fun o q => k i2 (by simp) o q⟩
  · intro X hP hw hK hc i pins s σ H E I hf st hg
    subst hP hw hK
    obtain ⟨hz, hTI, hTO, g1, g2⟩ := st
    obtain ⟨hi, in1, in2⟩ := hg
    have hh : X.A.in1.handled = none := I.ok.hd hc
    obtain ⟨sf1, P1, S1, D1, s1, c1, e1, n1⟩ := (k1.draws I hh in1 (hf i1 (by simp)).1 g1).ex
    obtain ⟨sf2, P2, S2, D2, s2, c2, e2, n2⟩ := (k2.draws I hh in2 (hf i2 (by simp)).1 g2).ex
    refine item_new (K := fun x H' => ∃ T a b, x = .ref T ∧ H T = none ∧ H' = upd H T (.tup [a, b]) ∧ k1.at' i = some a ∧ k2.at' i = some b)
      (tn := fun h => IsZip h z TI TO .none ∧ IsTupOf2 h TI (.ref i1) (.ref i2) ∧ (∃ x y, IsTupOf2 h TO x y) ∧ k1.it i1 (i + 1) h ∧ k2.it i2 (i + 1) h) (GoesN.zip2 (sep hf n1 n2) D1 D2) hi ⟨hz, hTI, hTO, s1, s2⟩ I hf (fun b hb => ?_) (fun b hb => ?_) (fun h' q => ⟨q.1, q.2.1, q.2.2.1, c1 _ _ q.2.2.2.1, c2 _ _ q.2.2.2.2⟩) fun v h' ⟨T, x, y, ev, hT, px, py, p⟩ => ?_
    · have q : b = z ∨ b = TI ∨ b = TO ∨ b = i1 ∨ b = i2 := by simpa using hb
      obtain ⟨x, y, hTO⟩ := hTO
      rcases q with q | q | q | q | q
      · rw [q]; exact Heap.lt_size hz
      · rw [q]; exact Heap.lt_size hTI
      · rw [q]; exact Heap.lt_size hTO
      · rw [q]; obtain ⟨o, e, _⟩ := (SrcK.it_obj g1); exact Heap.lt_size e
      · rw [q]; obtain ⟨o, e, _⟩ := (SrcK.it_obj g2); exact Heap.lt_size e
    · have q : b = z ∨ b = TO ∨ b = i1 ∨ b = i2 := by simpa using hb
      rcases q with q | q | q | q <;> simp [q]
    · obtain ⟨a, ea, ra⟩ := e1 i x px
      obtain ⟨b, eb, rb⟩ := e2 i y py
      exact ⟨T, [x, y], [a, b], ev, hT, .cons ra (.cons rb .nil), by show 2 ≤ sizeLine; decide, p, fun hn => ⟨T, a, b, rfl, hn, rfl, ea, eb⟩⟩
  · intro X hP hw hK hc i pins s σ H E I hf st hg
    subst hP hw hK
    obtain ⟨hz, hTI, hTO, g1, g2⟩ := st
    obtain ⟨hi, in1, in2⟩ := hg
    subst hi
    have hh : X.A.in1.handled = none := I.ok.hd hc
    obtain ⟨sf1, P1, S1, D1, s1, c1, e1, n1⟩ := (k1.draws I hh in1 (hf i1 (by simp)).1 g1).ex
    obtain ⟨sf2, P2, S2, D2, s2, c2, e2, n2⟩ := (k2.draws I hh in2 (hf i2 (by simp)).1 g2).ex
    refine done_new (fp := [z, TI, TO, i1, i2]) (GoesN.zip2 (elts := elts) (x1 := kk) (pos := tpos) (sep hf n1 n2) D1 D2) ⟨hz, hTI, hTO, s1, s2⟩ I hf (fun b hb => ?_)
    have q : b = z ∨ b = TO ∨ b = i1 ∨ b = i2 := by simpa using hb
    rcases q with q | q | q | q <;> simp [q]

/-! ### zip of three -/
def ItZ3 (k1 k2 k3 : SrcK) : It :=
  ⟨fun i H => i < min (min k1.n k2.n) k3.n ∧ k1.isIn H ∧ k2.isIn H ∧ k3.isIn H, fun i H v H' => ∃ T x y u, v = .ref T ∧ H T = none ∧ H' = upd H T (.tup [x, y, u]) ∧ k1.at' i = some x ∧ k2.at' i = some y ∧ k3.at' i = some u, fun i H => i = min (min k1.n k2.n) k3.n ∧ k1.isIn H ∧ k2.isIn H ∧ k3.isIn H⟩
theorem turn_zip3 {P : Program} {w : World} {K : PySem.W.Frag} {elts : List Expr} {kk : Nat} {tpos : Pos} {z TI TO i1 i2 i3 : Addr} {k1 k2 k3 : SrcK} (h1 : TI ≠ z) (h2 : TO ≠ z) (h3 : TI ≠ TO) (h4 : TI ≠ i1) (h5 : TI ≠ i2) (h5' : TI ≠ i3) (h6 : z ≠ i1) (h7 : TO ≠ i1) (h8 : z ≠ i2) (h9 : TO ≠ i2) (h8' : z ≠ i3) (h9' : TO ≠ i3) (h10 : i1 ≠ i2) (h11 : i1 ≠ i3) (h12 : i2 ≠ i3) :
    Turn P w K (.Tuple elts kk tpos) (ItZ3 k1 k2 k3) [z, TI, TO, i1, i2, i3] z (fun i h => IsZip h z TI TO .none ∧ IsTupOf3 h TI (.ref i1) (.ref i2) (.ref i3) ∧ (∃ x y u, IsTupOf3 h TO x y u) ∧ k1.it i1 i h ∧ k2.it i2 i h ∧ k3.it i3 i h) := by
  have sep : ∀ {X : Cx} {pins : List (Addr × Obj)} {H : Hp} {sf1 sf2 sf3 : List Addr}, (∀ b ∈ [z, TI, TO, i1, i2, i3], FpOk X pins H b) → (∀ b ∈ sf1, H b ≠ none) → (∀ b ∈ sf2, H b ≠ none) → (∀ b ∈ sf3, H b ≠ none) → ZipSep3 z TI TO i1 i2 i3 (i1 :: sf1) (i2 :: sf2) (i3 :: sf3) := fun {X pins H sf1 sf2 sf3} hf n1 n2 n3 => by
    have nin : ∀ {b j : Addr} {sf : List Addr}, b ∈ [z, TI, TO, i1, i2, i3] → (∀ c ∈ sf, H c ≠ none) → b ≠ j → b ∉ j :: sf := fun {b j sf} hb hn hj hm => by
      rcases List.mem_cons.mp hm with q | q
      · exact hj q
      · exact hn b q (hf b hb).1
    exact { TIz := h1, TOz := h2, TITO := h3, TIi1 := h4, mem1 := List.mem_cons_self .., zf1 := nin (by simp) n1 h6, Tf1 := nin (by simp) n1 h7, TIi2 := h5, mem2 := List.mem_cons_self .., zf2 := nin (by simp) n2 h8, Tf2 := nin (by simp) n2 h9, TIi3 := h5', mem3 := List.mem_cons_self .., zf3 := nin (by simp) n3 h8', Tf3 := nin (by simp) n3 h9', sep1_2 := nin (by simp) n2 h10, sep1_3 := nin (by simp) n3 h11, sep2_1 := nin (by simp) n1 (Ne.symm h10), sep2_3 := nin (by simp) n3 h12, sep3_1 := nin (by simp) n1 (Ne.symm h11), sep3_2 := nin (by simp) n2 (Ne.symm h12) }
  refine ⟨by simp, fun i h st c hc => ?_, fun i h h' st k => ?_, ?_, ?_, fun A i s Q E st h => wpAny_pyIter_zip st.1 h⟩
  · obtain ⟨hz, hTI, ⟨x, y, u, hTO⟩, g1, g2, g3⟩ := st
    have e' : c = z ∨ c = TI ∨ c = TO ∨ c = i1 ∨ c = i2 ∨ c = i3 := by simpa using hc
    rcases e' with q | q | q | q | q | q
    · rw [q]; exact ⟨_, hz, fun v q => nomatch q⟩
    · rw [q]; exact ⟨_, hTI, fun v q => nomatch q⟩
    · rw [q]; exact ⟨_, hTO, fun v q => nomatch q⟩
    · rw [q]; exact (SrcK.it_obj g1)
    · rw [q]; exact (SrcK.it_obj g2)
    · rw [q]; exact (SrcK.it_obj g3)
  · obtain ⟨hz, hTI, ⟨x, y, u, hTO⟩, g1, g2, g3⟩ := st
    exact ⟨k z (by simp) _ hz, k TI (by simp) _ hTI, ⟨x, y, u, k TO (by simp) _ hTO⟩, (SrcK.it_keep g1) fun o q => k i1 (by simp) o q, (SrcK.it_keep g2) fun o q => k i2 (by simp) o q, (SrcK.it_keep g3) fun o q => k i3 (by simp) o q⟩
  · intro X hP hw hK hc i pins s σ H E I hf st hg
    subst hP hw hK
    obtain ⟨hz, hTI, hTO, g1, g2, g3⟩ := st
    obtain ⟨hi, in1, in2, in3⟩ := hg
    have hh : X.A.in1.handled = none := I.ok.hd hc
    obtain ⟨sf1, P1, S1, D1, s1, c1, e1, n1⟩ := (k1.draws I hh in1 (hf i1 (by simp)).1 g1).ex
    obtain ⟨sf2, P2, S2, D2, s2, c2, e2, n2⟩ := (k2.draws I hh in2 (hf i2 (by simp)).1 g2).ex
    obtain ⟨sf3, P3, S3, D3, s3, c3, e3, n3⟩ := (k3.draws I hh in3 (hf i3 (by simp)).1 g3).ex
    refine item_new (K := fun x H' => ∃ T a b c, x = .ref T ∧ H T = none ∧ H' = upd H T (.tup [a, b, c]) ∧ k1.at' i = some a ∧ k2.at' i = some b ∧ k3.at' i = some c)
      (tn := fun h => IsZip h z TI TO .none ∧ IsTupOf3 h TI (.ref i1) (.ref i2) (.ref i3) ∧ (∃ x y u, IsTupOf3 h TO x y u) ∧ k1.it i1 (i + 1) h ∧ k2.it i2 (i + 1) h ∧ k3.it i3 (i + 1) h) (GoesN.zip3 (sep hf n1 n2 n3) D1 D2 D3) hi ⟨hz, hTI, hTO, s1, s2, s3⟩ I hf (fun b hb => ?_) (fun b hb => ?_) (fun h' q => ⟨q.1, q.2.1, q.2.2.1, c1 _ _ q.2.2.2.1, c2 _ _ q.2.2.2.2.1, c3 _ _ q.2.2.2.2.2⟩) fun v h' ⟨T, x, y, u, ev, hT, px, py, pu, p⟩ => ?_
    · have q : b = z ∨ b = TI ∨ b = TO ∨ b = i1 ∨ b = i2 ∨ b = i3 := by simpa using hb
      obtain ⟨x, y, u, hTO⟩ := hTO
      rcases q with q | q | q | q | q | q
      · rw [q]; exact Heap.lt_size hz
      · rw [q]; exact Heap.lt_size hTI
      · rw [q]; exact Heap.lt_size hTO
      · rw [q]; obtain ⟨o, e, _⟩ := (SrcK.it_obj g1); exact Heap.lt_size e
      · rw [q]; obtain ⟨o, e, _⟩ := (SrcK.it_obj g2); exact Heap.lt_size e
      · rw [q]; obtain ⟨o, e, _⟩ := (SrcK.it_obj g3); exact Heap.lt_size e
    · have q : b = z ∨ b = TO ∨ b = i1 ∨ b = i2 ∨ b = i3 := by simpa using hb
      rcases q with q | q | q | q | q <;> simp [q]
    · obtain ⟨a, ea, ra⟩ := e1 i x px
      obtain ⟨b, eb, rb⟩ := e2 i y py
      obtain ⟨c, ec, rc⟩ := e3 i u pu
      exact ⟨T, [x, y, u], [a, b, c], ev, hT, .cons ra (.cons rb (.cons rc .nil)), by show 3 ≤ sizeLine; decide, p, fun hn => ⟨T, a, b, c, rfl, hn, rfl, ea, eb, ec⟩⟩
  · intro X hP hw hK hc i pins s σ H E I hf st hg
    subst hP hw hK
    obtain ⟨hz, hTI, hTO, g1, g2, g3⟩ := st
    obtain ⟨hi, in1, in2, in3⟩ := hg
    subst hi
    have hh : X.A.in1.handled = none := I.ok.hd hc
    obtain ⟨sf1, P1, S1, D1, s1, c1, e1, n1⟩ := (k1.draws I hh in1 (hf i1 (by simp)).1 g1).ex
    obtain ⟨sf2, P2, S2, D2, s2, c2, e2, n2⟩ := (k2.draws I hh in2 (hf i2 (by simp)).1 g2).ex
    obtain ⟨sf3, P3, S3, D3, s3, c3, e3, n3⟩ := (k3.draws I hh in3 (hf i3 (by simp)).1 g3).ex
    refine done_new (fp := [z, TI, TO, i1, i2, i3]) (GoesN.zip3 (elts := elts) (x1 := kk) (pos := tpos) (sep hf n1 n2 n3) D1 D2 D3) ⟨hz, hTI, hTO, s1, s2, s3⟩ I hf (fun b hb => ?_)
    have q : b = z ∨ b = TO ∨ b = i1 ∨ b = i2 ∨ b = i3 := by simpa using hb
    rcases q with q | q | q | q | q <;> simp [q]

/-! ### enumerate -/
def ItE (k : SrcK) : It :=
  ⟨fun i H => i < k.n ∧ k.isIn H, fun i H v H' => ∃ T x, v = .ref T ∧ H T = none ∧ H' = upd H T (.tup [.int (i : Nat), x]) ∧ k.at' i = some x, fun i H => i = k.n ∧ k.isIn H⟩
theorem turn_en {P : Program} {w : World} {K : PySem.W.Frag} {elts : List Expr} {kk : Nat} {tpos : Pos} {e it : Addr} {k : SrcK} (hne : e ≠ it) :
    Turn P w K (.Tuple elts kk tpos) (ItE k) [e, it] e (fun i h => (∃ old, IsEnum h e it (0 + (i : Int)) old) ∧ k.it it i h) := by
  have nin : ∀ {X : Cx} {pins : List (Addr × Obj)} {H : Hp} {sf : List Addr}, (∀ b ∈ [e, it], FpOk X pins H b) → (∀ b ∈ sf, H b ≠ none) → e ∉ it :: sf := fun {X pins H sf} hf n1 hm => by
    rcases List.mem_cons.mp hm with q | q
    · exact hne q
    · exact n1 e q (hf e (by simp)).1
  refine ⟨by simp, fun i h st c hc => ?_, fun i h h' st k' => ?_, ?_, ?_, fun A i s Q E st h => let ⟨⟨_, he⟩, _⟩ := st; wpAny_pyIter_enum he h⟩
  · obtain ⟨⟨old, he⟩, g⟩ := st
    have e' : c = e ∨ c = it := by simpa using hc
    rcases e' with q | q
    · rw [q]; exact ⟨_, he, fun v q => nomatch q⟩
    · rw [q]; exact (SrcK.it_obj g)
  · obtain ⟨⟨old, he⟩, g⟩ := st
    exact ⟨⟨old, k' e (by simp) _ he⟩, (SrcK.it_keep g) fun o q => k' it (by simp) o q⟩
  · intro X hP hw hK hc i pins s σ H E I hf st hg
    subst hP hw hK
    obtain ⟨⟨old, he⟩, g⟩ := st
    obtain ⟨hi, in1⟩ := hg
    have hh : X.A.in1.handled = none := I.ok.hd hc
    obtain ⟨sf1, P1, S1, D1, s1, c1, e1, n1⟩ := (k.draws I hh in1 (hf it (by simp)).1 g).ex
    refine item_new (K := fun x H' => ∃ T a, x = .ref T ∧ H T = none ∧ H' = upd H T (.tup [.int (i : Nat), a]) ∧ k.at' i = some a)
      (tn := fun h => (∃ old, IsEnum h e it (0 + ((i + 1 : Nat) : Int)) old) ∧ k.it it (i + 1) h) (GoesN.enumFrom 0 D1 e hne (nin hf n1) (List.mem_cons_self ..)) hi ⟨⟨old, he⟩, s1⟩ I hf (fun b hb => ?_) (fun b hb => hb) (fun h' q => ⟨q.1, c1 _ _ q.2⟩) fun v h' ⟨T, t, x, ev, hT, px, p⟩ => ?_
    · have q : b = e ∨ b = it := by simpa using hb
      rcases q with q | q
      · rw [q]; exact Heap.lt_size he
      · rw [q]; obtain ⟨o, e, _⟩ := (SrcK.it_obj g); exact Heap.lt_size e
    · obtain ⟨a, ea, ra⟩ := e1 i x px
      rw [Int.zero_add] at p
      exact ⟨T, [.int (i : Nat) t, x], [.int (i : Nat), a], ev, hT, .cons ⟨t, rfl⟩ (.cons ra .nil), by show 2 ≤ sizeLine; decide, p, fun hn => ⟨T, a, rfl, hn, rfl, ea⟩⟩
  · intro X hP hw hK hc i pins s σ H E I hf st hg
    subst hP hw hK
    obtain ⟨⟨old, he⟩, g⟩ := st
    obtain ⟨hi, in1⟩ := hg
    subst hi
    have hh : X.A.in1.handled = none := I.ok.hd hc
    obtain ⟨sf1, P1, S1, D1, s1, c1, e1, n1⟩ := (k.draws I hh in1 (hf it (by simp)).1 g).ex
    exact done_new (fp := [e, it]) (GoesN.enumFrom (elts := elts) (x1 := kk) (pos := tpos) 0 D1 e hne (nin hf n1) (List.mem_cons_self ..)) ⟨⟨old, he⟩, s1⟩ I hf (fun b hb => hb)
end Dl
/-! The data layer: the calls that make what is walked. -/
namespace Dl
open PySem PySem.Spec PyProof.Rows L2 TL

set_option maxHeartbeats 1000000 in
theorem meets_enumerate_newB1 {v : Value} {o : Obj} {H : Heap → Prop} (B : Begins v o H) :
    Meets (Builtin.«enumerate.__new__» ⟨[.type "enumerate", v], []⟩) (fun _ R s => H s.heap ∧
      R (.ok (.ret (.ref (s.heap.push o).objs.size))) { s with heap := (s.heap.push o).push { cls := .type "enumerate", data := .fields #[.none, .bool false, .ref s.heap.objs.size, rawInt 0, .none, .none] } }) :=
  .of_wp fun prog w A R s h => by
    obtain ⟨hp, g, d, tk, os⟩ := s; obtain ⟨h1, h⟩ := h
    have hsub := sub_enumerate
    have q1 : ∀ {A' : Around} {E : Value → Shared → Prop} {Q : Value → Shared → Prop}, Q (.ref hp.objs.size) ⟨hp.push o, g, d, tk, os⟩ → wpAny (model prog w) A' (pyIter v) Q E ⟨hp, g, d, tk, os⟩ :=
      fun q => B.iter prog w _ _ ⟨hp, g, d, tk, os⟩ _ h1 q
    wp_walk using q1
    refine wpAny_stack_any fun st => wpAny_pure ?_
    split
    · rename_i c _ _ _ _ _
      cases (c == Value.type "enumerate")
      · wp_walk using q1
        exact ⟨_, rfl, h⟩
      · wp_walk using q1
        exact ⟨_, rfl, h⟩
    · wp_walk using q1
      exact ⟨_, rfl, h⟩
section
variable {prog : Program} {w : World} {A : Around} {E : Value → Shared → Prop} {s : Shared}
theorem enum_begins1 {v : Value} {o : Obj} {H : Heap → Prop} {Q : Value → Shared → Prop} (B : Begins v o H) (h1 : H s.heap)
    (h : ∀ h', IsEnum h' (s.heap.objs.size + 1) s.heap.objs.size 0 .none → h'.get? s.heap.objs.size = some o → h'.objs.size = s.heap.objs.size + 2 →
      (∀ b o, s.heap.get? b = some o → h'.get? b = some o) → Q (.ref (s.heap.objs.size + 1)) { s with heap := h' }) :
    wpAny (model prog w) A (call (.type "enumerate") [v]) Q E s := by
  refine callType_new F.called_enumerate (by decide) (F.typeCall_enumerate_1 _) (F.newCall_enumerate_1 _) (fun obj => F.args_object_init_2 obj _) F.entry_enumerate_new
    (meets_enumerate_newB1 B) ⟨h1, ?_⟩
  have hz : (s.heap.push o).objs.size = s.heap.objs.size + 1 := Heap.size_push ..
  show _ ∧ _
  rw [hz]
  have he : IsEnum ((s.heap.push o).push { cls := .type "enumerate", data := .fields #[.none, .bool false, .ref s.heap.objs.size, rawInt 0, .none, .none] }) (s.heap.objs.size + 1) s.heap.objs.size 0 .none := by
    have := Heap.get?_push_size (s.heap.push o) (o := { cls := .type "enumerate", data := .fields #[.none, .bool false, .ref s.heap.objs.size, rawInt 0, .none, .none] }) rfl
    rw [hz] at this; exact this
  refine ⟨⟨_, he, rfl⟩, h _ he (Heap.get?_push_of_some _ (Heap.get?_push_size _ B.free)) (by rw [Heap.size_push, hz]) fun b o x => Heap.get?_push_of_some _ (Heap.get?_push_of_some _ x)⟩
end
/-- how a source begins -/
theorem SrcK.begins {X : Cx} {pins : List (Addr × Obj)} {σ : L2.St} {H : Hp} {s : Shared} (k : SrcK) (I : Inv X pins σ H s) (hin : k.isIn H) {u : Value} (r : RelV k.val u) :
    ∃ o G, Begins u o G ∧ G s.heap ∧ ∀ h' it, h'.get? it = some o → k.it it 0 h' := by
  cases k with
  | lst a xs =>
    have hin : H a = some (.lst xs) := hin
    obtain rfl : u = .ref a := r
    obtain ⟨its, rv, p, hz⟩ := I.list (.of hin)
    exact ⟨_, _, begins_list a its.toArray, p.isList, fun h' it e => ⟨_, e, rfl, rfl⟩⟩
  | tup a xs =>
    have hin : H a = some (.tup xs) := hin
    obtain rfl : u = .ref a := r
    obtain ⟨its, rv, p, hz⟩ := I.tuple (.of hin)
    exact ⟨_, _, begins_tuple a its.toArray, p, fun h' it e => ⟨_, e, rfl, rfl⟩⟩
  | txt z =>
    obtain ⟨t, rfl⟩ := r
    exact ⟨_, _, begins_text z t, trivial, fun h' it e => ⟨t, _, e, rfl, rfl⟩⟩
def iZ2 (ta : TA) : TI := fun σ H R => ta σ H fun vs H1 => ∃ k1 k2 : SrcK, vs = [k1.val, k2.val] ∧ k1.isIn H1 ∧ k2.isIn H1 ∧ R (ItZ2 k1 k2) H1
def iZ3 (ta : TA) : TI := fun σ H R => ta σ H fun vs H1 => ∃ k1 k2 k3 : SrcK, vs = [k1.val, k2.val, k3.val] ∧ k1.isIn H1 ∧ k2.isIn H1 ∧ k3.isIn H1 ∧ R (ItZ3 k1 k2 k3) H1
def iEn (ta : TA) : TI := fun σ H R => ta σ H fun vs H1 => ∃ k1 : SrcK, vs = [k1.val] ∧ k1.isIn H1 ∧ R (ItE k1) H1
section
variable {X : Cx} {e e2 e3 : Expr} {ta : TA} {p pos tpos : Pos} {elts : List Expr} {kk : Nat}
theorem pi_z2 (hg : Gl X "zip") (hm : X.mg "zip" = none) (ha : PA X [e, e2] ta)
    (hs : starEach [e, e2] X.env = (false, eval e X.env) :: starEach [e2] X.env := by rfl) (hpl : (backTo pos (starEach [e2] X.env)).any (·.1) = false := by rfl) :
    PI X (.Tuple elts kk tpos) (.Call (.Name "zip" p) [e, e2] [] pos) (iZ2 ta) := by
  refine ⟨fun pins s σ H R I h => ?_⟩
  refine Call_ (ld_blt I hg hm PyProof.Rows.boot_zip (PyProof.Rows.callWith_type1 (thn (ha.run pos pins s σ H _ I h) fun us s1 ⟨vs, H1, I1, r1, q1⟩ => ?_) hs hpl))
  obtain ⟨k1, k2, ex, in1, in2, q⟩ := q1
  subst ex
  cases r1 with
  | cons r rr =>
    cases rr with
    | cons r' rr =>
      cases rr
      obtain ⟨o1, G1, B1, g1, j1⟩ := k1.begins I1 in1 r
      obtain ⟨o2, G2, B2, g2, j2⟩ := k2.begins I1 in2 r'
      refine zip_begins2 B1 B2 g1 g2 fun h' hz hTI hTO h1 h2 hsz hk => wpAny_pyIter_zip hz ?_
      have I2 : Inv X pins σ H1 { s1 with heap := h' } := I1.kept (t' := s1.toks) hk
      have ne : ∀ i j : Nat, i ≠ j → s1.heap.objs.size + i ≠ s1.heap.objs.size + j := fun i j n e => n (Nat.add_left_cancel e)
      refine ⟨s1.heap.objs.size + 4, [s1.heap.objs.size + 4, s1.heap.objs.size + 2, s1.heap.objs.size + 3, s1.heap.objs.size, s1.heap.objs.size + 1], _, _, H1, rfl, I2,
        turn_zip2 (ne 2 4 (by decide)) (ne 3 4 (by decide)) (ne 2 3 (by decide)) (ne 2 0 (by decide)) (ne 2 1 (by decide)) (ne 4 0 (by decide)) (ne 3 0 (by decide)) (ne 4 1 (by decide)) (ne 3 1 (by decide)) (ne 0 1 (by decide)), ⟨hz, hTI, ⟨_, _, hTO⟩, j1 _ _ h1, j2 _ _ h2⟩, fun c hcm => ?_, q⟩
      have e' : c = s1.heap.objs.size + 4 ∨ c = s1.heap.objs.size + 2 ∨ c = s1.heap.objs.size + 3 ∨ c = s1.heap.objs.size ∨ c = s1.heap.objs.size + 1 := by simpa using hcm
      have hle : s1.heap.objs.size ≤ c := by
        rcases e' with z | z | z | z | z
        · rw [z]; exact Nat.le_add_right _ _
        · rw [z]; exact Nat.le_add_right _ _
        · rw [z]; exact Nat.le_add_right _ _
        · rw [z]; exact Nat.le_refl _
        · rw [z]; exact Nat.le_add_right _ _
      exact I1.fpOk hle (I1.hok.fresh hle)
theorem pi_z3 (hg : Gl X "zip") (hm : X.mg "zip" = none) (ha : PA X [e, e2, e3] ta)
    (hs : starEach [e, e2, e3] X.env = (false, eval e X.env) :: starEach [e2, e3] X.env := by rfl) (hpl : (backTo pos (starEach [e2, e3] X.env)).any (·.1) = false := by rfl) :
    PI X (.Tuple elts kk tpos) (.Call (.Name "zip" p) [e, e2, e3] [] pos) (iZ3 ta) := by
  refine ⟨fun pins s σ H R I h => ?_⟩
  refine Call_ (ld_blt I hg hm PyProof.Rows.boot_zip (PyProof.Rows.callWith_type1 (thn (ha.run pos pins s σ H _ I h) fun us s1 ⟨vs, H1, I1, r1, q1⟩ => ?_) hs hpl))
  obtain ⟨k1, k2, k3, ex, in1, in2, in3, q⟩ := q1
  subst ex
  cases r1 with
  | cons r rr =>
    cases rr with
    | cons r' rr =>
      cases rr with
      | cons r'' rr =>
        cases rr
        obtain ⟨o1, G1, B1, g1, j1⟩ := k1.begins I1 in1 r
        obtain ⟨o2, G2, B2, g2, j2⟩ := k2.begins I1 in2 r'
        obtain ⟨o3, G3, B3, g3, j3⟩ := k3.begins I1 in3 r''
        refine zip_begins3 B1 B2 B3 g1 g2 g3 fun h' hz hTI hTO h1 h2 h3 hsz hk => wpAny_pyIter_zip hz ?_
        have I2 : Inv X pins σ H1 { s1 with heap := h' } := I1.kept (t' := s1.toks) hk
        have ne : ∀ i j : Nat, i ≠ j → s1.heap.objs.size + i ≠ s1.heap.objs.size + j := fun i j n e => n (Nat.add_left_cancel e)
        refine ⟨s1.heap.objs.size + 5, [s1.heap.objs.size + 5, s1.heap.objs.size + 3, s1.heap.objs.size + 4, s1.heap.objs.size, s1.heap.objs.size + 1, s1.heap.objs.size + 2], _, _, H1, rfl, I2,
          turn_zip3 (ne 3 5 (by decide)) (ne 4 5 (by decide)) (ne 3 4 (by decide)) (ne 3 0 (by decide)) (ne 3 1 (by decide)) (ne 3 2 (by decide)) (ne 5 0 (by decide)) (ne 4 0 (by decide)) (ne 5 1 (by decide)) (ne 4 1 (by decide)) (ne 5 2 (by decide)) (ne 4 2 (by decide)) (ne 0 1 (by decide)) (ne 0 2 (by decide)) (ne 1 2 (by decide)), ⟨hz, hTI, ⟨_, _, _, hTO⟩, j1 _ _ h1, j2 _ _ h2, j3 _ _ h3⟩, fun c hcm => ?_, q⟩
        have e' : c = s1.heap.objs.size + 5 ∨ c = s1.heap.objs.size + 3 ∨ c = s1.heap.objs.size + 4 ∨ c = s1.heap.objs.size ∨ c = s1.heap.objs.size + 1 ∨ c = s1.heap.objs.size + 2 := by simpa using hcm
        have hle : s1.heap.objs.size ≤ c := by
          rcases e' with z | z | z | z | z | z
          · rw [z]; exact Nat.le_add_right _ _
          · rw [z]; exact Nat.le_add_right _ _
          · rw [z]; exact Nat.le_add_right _ _
          · rw [z]; exact Nat.le_refl _
          · rw [z]; exact Nat.le_add_right _ _
          · rw [z]; exact Nat.le_add_right _ _
        exact I1.fpOk hle (I1.hok.fresh hle)
theorem pi_en (hg : Gl X "enumerate") (hm : X.mg "enumerate" = none) (ha : PA X [e] ta) (hs : starEach [e] X.env = [(false, eval e X.env)] := by rfl) :
    PI X (.Tuple elts kk tpos) (.Call (.Name "enumerate" p) [e] [] pos) (iEn ta) := by
  refine ⟨fun pins s σ H R I h => ?_⟩
  refine Call_ (ld_blt I hg hm boot_enumerate (PyProof.Rows.callWith_type1 (thn (ha.run pos pins s σ H _ I h) fun us s1 ⟨vs, H1, I1, r1, q1⟩ => ?_) hs rfl))
  obtain ⟨k1, ex, in1, q⟩ := q1
  subst ex
  cases r1 with
  | cons r rr =>
    cases rr
    obtain ⟨o1, G1, B1, g1, j1⟩ := k1.begins I1 in1 r
    refine enum_begins1 B1 g1 fun h' he hit hsz hk => wpAny_pyIter_enum he ?_
    have I2 : Inv X pins σ H1 { s1 with heap := h' } := I1.kept (t' := s1.toks) hk
    refine ⟨s1.heap.objs.size + 1, [s1.heap.objs.size + 1, s1.heap.objs.size], _, _, H1, rfl, I2, turn_en (Nat.succ_ne_self _), ⟨⟨.none, he⟩, j1 _ _ hit⟩, fun b hb => ?_, q⟩
    have e' : b = s1.heap.objs.size + 1 ∨ b = s1.heap.objs.size := by simpa using hb
    have hle : s1.heap.objs.size ≤ b := by
      rcases e' with z | z
      · rw [z]; exact Nat.le_add_right _ _
      · rw [z]; exact Nat.le_refl _
    exact I1.fpOk hle (I1.hok.fresh hle)
/-- a list, a tuple, a text as it stands -/
def ItA (K : PySem.W.Frag) : SrcK → It
  | .lst a _ => Itl K a
  | .tup a _ => Itt K a
  | .txt z => Its z
def iAny (K : PySem.W.Frag) (te : TE) : TI := fun σ H R => te σ H fun v H1 => ∃ k : SrcK, v = k.val ∧ k.isIn H1 ∧ R (ItA K k) H1
theorem pi_any {tg : Expr} {te : TE} (he : PE X e te) : PI X tg e (iAny X.K te) := by
  refine ⟨fun pins s σ H R I h => ?_⟩
  refine thn (he.run pins s σ H _ I h) fun v s1 ⟨x, H1, I1, r1, q1⟩ => ?_
  obtain ⟨k, e, hin, q⟩ := q1
  subst e
  cases k with
  | lst a xs =>
    have hin : H1 a = some (.lst xs) := hin
    obtain rfl : v = .ref a := r1
    obtain ⟨its, rv, p, hz⟩ := I1.list (.of hin)
    exact wpAny_pyIter_list p.isList (pi_one (tk := s1.toks) I1 _ (turn_list a _) ⟨_, Heap.get?_push_size _ rfl, rfl, rfl⟩ q)
  | tup a xs =>
    have hin : H1 a = some (.tup xs) := hin
    obtain rfl : v = .ref a := r1
    obtain ⟨its, rv, p, hz⟩ := I1.tuple (.of hin)
    exact wpAny_pyIter_tuple (show s1.heap.IsTuple a its.toArray from p) (pi_one (tk := s1.toks) I1 _ (turn_tuple a _) ⟨_, Heap.get?_push_size _ rfl, rfl, rfl⟩ q)
  | txt x =>
    obtain ⟨t, rfl⟩ := r1
    cases ha : x.cps.all (· < 128)
    · exact wpAny_pyIter_wide ha (pi_one (tk := s1.toks) I1 _ (turn_str _ x t "str_iterator" (.inr rfl)) ⟨_, Heap.get?_push_size _ rfl, rfl, rfl⟩ q)
    · exact wpAny_pyIter_ascii ha (pi_one (tk := s1.toks) I1 _ (turn_str _ x t "str_ascii_iterator" (.inl rfl)) ⟨_, Heap.get?_push_size _ rfl, rfl, rfl⟩ q)
end

/-! ### the readings -/
def itD : D → Option (List D)
  | .lst l => some l
  | .tup l => some l
  | .str z => some (z.map fun c => .str [c])
  | _ => none
def sIt (f : SE) : SL := fun r m => bindR (f r m) fun d m => ofO (itD d) m
section
variable {X : Cx} {w : Wi} {a b c e tg : Expr} {es : List Expr} {p pos tpos : Pos} {elts : List Expr} {kk : Nat} {fa f : SE} {g : SL}
/-- what a source's items are -/
theorem src_of {F : Hp} {io : List Addr} {d : D} {v : V} {l : List D} (h : Rep F io d v) (e : itD d = some l) : ∃ k : SrcK, v = k.val ∧ (∀ F' H, Sub F F' → Sub F' H → k.isIn H) ∧ l.length = k.n ∧ ∀ i u, k.at' i = some u → ∃ q, l[i]? = some q ∧ Rep F io q u := by
  cases h with
  | lst e1 r =>
    rename_i a ds vs
    obtain rfl : ds = l := Option.some.inj e
    exact ⟨.lst a vs, rfl, fun F' H s1 s2 => s2 _ _ (s1 _ _ e1), r.length, fun i u q => r.getV q⟩
  | tup e1 r =>
    rename_i a ds vs
    obtain rfl : ds = l := Option.some.inj e
    exact ⟨.tup a vs, rfl, fun F' H s1 s2 => s2 _ _ (s1 _ _ e1), r.length, fun i u q => r.getV q⟩
  | str z =>
    obtain rfl : z.map (fun c => D.str [c]) = l := Option.some.inj e
    refine ⟨.txt ⟨z.toArray⟩, rfl, fun F' H s1 s2 => trivial, by simp [SrcK.n], fun i u q => ?_⟩
    have q : (z.toArray[i]?).map (fun c => V.str ⟨#[c]⟩) = some u := q
    have q : (z[i]?).map (fun c => V.str ⟨#[c]⟩) = some u := by simpa using q
    cases k : z[i]? with
    | none => rw [k] at q; cases q
    | some c =>
      rw [k] at q
      cases q
      exact ⟨.str [c], by simp [k], .str [c]⟩
  | _ => cases e
theorem Serves.any {F : Hp} {io : List Addr} {l : List D} {k : SrcK} {K : PySem.W.Frag} (hin : ∀ F' H, Sub F F' → Sub F' H → k.isIn H) (hn : l.length = k.n) (hat : ∀ i u, k.at' i = some u → ∃ q, l[i]? = some q ∧ Rep F io q u) : Serves F io (ItA K k) l := by
  have yl : ∀ F' io' H i d v H', Sub F F' → Pfx io io' → l[i]? = some d → H' = H → k.at' i = some v → Yl F' io' H d v H' := fun F' io' H i d v H' s1 s2 e1 e2 e3 => by
    subst e2
    obtain ⟨q, e4, r⟩ := hat i v e3
    rw [e1] at e4
    cases e4
    exact .here (r.mono s1 s2)
  cases k with
  | lst a xs =>
    have hn : l.length = xs.length := hn
    exact .of_walk (walk_list (xs := xs)) hn.symm (fun F' H s1 s2 => SqL.of (hin F' H s1 s2)) fun F' io' H i d v H' s1 s2 s3 e y => yl F' io' H i d v H' s1 s2 e y.1 y.2
  | tup a xs =>
    have hn : l.length = xs.length := hn
    exact .of_walk (walk_tup (xs := xs)) hn.symm (fun F' H s1 s2 => SqT.of (hin F' H s1 s2)) fun F' io' H i d v H' s1 s2 s3 e y => yl F' io' H i d v H' s1 s2 e y.1 y.2
  | txt z =>
    have hn : l.length = z.cps.size := hn
    exact .of_walk walk_str hn.symm (fun F' H s1 s2 => trivial) fun F' io' H i d v H' s1 s2 s3 e ⟨y1, c, y2, y3⟩ => yl F' io' H i d v H' s1 s2 e y1 (by show (z.cps[i]?).map _ = _; rw [y2, y3]; rfl)
theorem di_any (h : DE X w e f) : DI X w tg e (sIt f) := PI.imp (pi_any h) fun s H R ⟨x, r, m, Rl, q⟩ => by
  refine rd_bind Rl q fun d m1 v y H1 R1 p1 st1 q1 => ?_
  cases k : itD d with
  | none => rw [k] at q1; exact q1.elim
  | some l =>
    rw [k] at q1
    obtain ⟨z, ev, hin, hn, hat⟩ := src_of p1 k
    exact ⟨z, ev, hin _ _ (.refl _) R1.sub, q1 _ y H1 R1 (Serves.any hin hn hat) .refl⟩
def sZ2 (g : SL) : SL := fun r m => bindR (g r m) fun ds m => match ds with
  | [a, b] => match itD a, itD b with
    | some l, some k => .ok (List.zipWith (fun x y => .tup [x, y]) l k) m
    | _, _ => .bad
  | _ => .bad
def sZ3 (g : SL) : SL := fun r m => bindR (g r m) fun ds m => match ds with
  | [a, b, c] => match itD a, itD b, itD c with
    | some l, some k, some j => .ok (List.zipWith (fun x (y : D × D) => .tup [x, y.1, y.2]) l (k.zip j)) m
    | _, _, _ => .bad
  | _ => .bad
/-- the pairs of places and items from a number on -/
def enumL : Nat → List D → List D
  | _, [] => []
  | i, d :: l => .tup [.int i, d] :: enumL (i + 1) l
theorem enumL_length : ∀ (l : List D) (n : Nat), (enumL n l).length = l.length
  | [], _ => rfl
  | _ :: l, n => by simp [enumL, enumL_length l]
theorem enumL_get : ∀ (l : List D) (n i : Nat), (enumL n l)[i]? = (l[i]?).map fun d => .tup [.int (n + i : Nat), d]
  | [], n, i => by simp [enumL]
  | d :: l, n, 0 => by simp [enumL]
  | d :: l, n, i + 1 => by
    have h := enumL_get l (n + 1) i
    have e1 : n + 1 + i = n + (i + 1) := by omega
    rw [e1] at h
    simpa [enumL] using h
def sEn (g : SL) : SL := fun r m => bindR (g r m) fun ds m => match ds with
  | [a] => match itD a with
    | some l => .ok (enumL 0 l) m
    | _ => .bad
  | _ => .bad
theorem di_zip (hg : Gl X "zip") (hm : X.mg "zip" = none) (ha : DA X w [a, b] g)
    (hs : starEach [a, b] X.env = (false, eval a X.env) :: starEach [b] X.env := by rfl) (hpl : (backTo pos (starEach [b] X.env)).any (·.1) = false := by rfl) :
    DI X w (.Tuple elts kk tpos) (.Call (.Name "zip" p) [a, b] [] pos) (sZ2 g) := PI.imp (pi_z2 hg hm ha hs hpl) fun s H R ⟨x, r, m, Rl, q⟩ => by
  refine rd_bind Rl q fun ds m1 vs y H1 R1 p1 st1 q1 => ?_
  split at q1
  · rename_i d1 d2
    cases p1 with
    | cons r1 t =>
      cases t with
      | cons r2 t =>
        cases t
        split at q1
        · rename_i l k e1 e2
          obtain ⟨z1, ev1, in1, n1, at1⟩ := src_of r1 e1
          obtain ⟨z2, ev2, in2, n2, at2⟩ := src_of r2 e2
          refine ⟨z1, z2, by rw [ev1, ev2], in1 _ _ (.refl _) R1.sub, in2 _ _ (.refl _) R1.sub, q1 _ y H1 R1 ⟨fun F' H i s1 s2 hi => ⟨?_, in1 F' H s1 s2, in2 F' H s1 s2⟩, fun F' H s1 s2 => ⟨?_, in1 F' H s1 s2, in2 F' H s1 s2⟩, fun F' io' H i d v H' s1 s2 s3 e hy => ?_⟩ .refl⟩
          · rw [List.length_zipWith] at hi
            omega
          · rw [List.length_zipWith]
            omega
          · obtain ⟨T, x1, x2, rfl, hT, rfl, a1, a2⟩ := hy
            obtain ⟨q1, e3, c1⟩ := at1 i x1 a1
            obtain ⟨q2, e4, c2⟩ := at2 i x2 a2
            rw [List.getElem?_zipWith, e3, e4] at e
            cases e
            exact .new hT (.cons (c1.mono s1 s2) (.cons (c2.mono s1 s2) .nil))
        · exact q1.elim
  · exact q1.elim
theorem di_zip3 (hg : Gl X "zip") (hm : X.mg "zip" = none) (ha : DA X w [a, b, c] g)
    (hs : starEach [a, b, c] X.env = (false, eval a X.env) :: starEach [b, c] X.env := by rfl) (hpl : (backTo pos (starEach [b, c] X.env)).any (·.1) = false := by rfl) :
    DI X w (.Tuple elts kk tpos) (.Call (.Name "zip" p) [a, b, c] [] pos) (sZ3 g) := PI.imp (pi_z3 hg hm ha hs hpl) fun s H R ⟨x, r, m, Rl, q⟩ => by
  refine rd_bind Rl q fun ds m1 vs y H1 R1 p1 st1 q1 => ?_
  split at q1
  · rename_i d1 d2 d3
    cases p1 with
    | cons r1 t =>
      cases t with
      | cons r2 t =>
        cases t with
        | cons r3 t =>
          cases t
          split at q1
          · rename_i l k j e1 e2 e3
            obtain ⟨z1, ev1, in1, n1, at1⟩ := src_of r1 e1
            obtain ⟨z2, ev2, in2, n2, at2⟩ := src_of r2 e2
            obtain ⟨z3, ev3, in3, n3, at3⟩ := src_of r3 e3
            refine ⟨z1, z2, z3, by rw [ev1, ev2, ev3], in1 _ _ (.refl _) R1.sub, in2 _ _ (.refl _) R1.sub, in3 _ _ (.refl _) R1.sub, q1 _ y H1 R1 ⟨fun F' H i s1 s2 hi => ⟨?_, in1 F' H s1 s2, in2 F' H s1 s2, in3 F' H s1 s2⟩, fun F' H s1 s2 => ⟨?_, in1 F' H s1 s2, in2 F' H s1 s2, in3 F' H s1 s2⟩, fun F' io' H i d v H' s1 s2 s3 e hy => ?_⟩ .refl⟩
            · rw [List.length_zipWith, List.length_zip] at hi
              omega
            · rw [List.length_zipWith, List.length_zip]
              omega
            · obtain ⟨T, x1, x2, x3, rfl, hT, rfl, a1, a2, a3⟩ := hy
              obtain ⟨q1, e4, c1⟩ := at1 i x1 a1
              obtain ⟨q2, e5, c2⟩ := at2 i x2 a2
              obtain ⟨q3, e6, c3⟩ := at3 i x3 a3
              have ez : (k.zip j)[i]? = some (q2, q3) := by rw [List.getElem?_zip_eq_some]; exact ⟨e5, e6⟩
              rw [List.getElem?_zipWith, e4, ez] at e
              cases e
              exact .new hT (.cons (c1.mono s1 s2) (.cons (c2.mono s1 s2) (.cons (c3.mono s1 s2) .nil)))
          · exact q1.elim
  · exact q1.elim
theorem di_en (hg : Gl X "enumerate") (hm : X.mg "enumerate" = none) (ha : DA X w [a] g) (hs : starEach [a] X.env = [(false, eval a X.env)] := by rfl) :
    DI X w (.Tuple elts kk tpos) (.Call (.Name "enumerate" p) [a] [] pos) (sEn g) := PI.imp (pi_en hg hm ha hs) fun s H R ⟨x, r, m, Rl, q⟩ => by
  refine rd_bind Rl q fun ds m1 vs y H1 R1 p1 st1 q1 => ?_
  split at q1
  · rename_i d1
    cases p1 with
    | cons r1 t =>
      cases t
      split at q1
      · rename_i l e1
        obtain ⟨z1, ev1, in1, n1, at1⟩ := src_of r1 e1
        refine ⟨z1, by rw [ev1], in1 _ _ (.refl _) R1.sub, q1 _ y H1 R1 ⟨fun F' H i s1 s2 hi => ⟨?_, in1 F' H s1 s2⟩, fun F' H s1 s2 => ⟨?_, in1 F' H s1 s2⟩, fun F' io' H i d v H' s1 s2 s3 e hy => ?_⟩ .refl⟩
        · rw [enumL_length] at hi
          omega
        · rw [enumL_length]
          omega
        · obtain ⟨T, x1, rfl, hT, rfl, a1⟩ := hy
          obtain ⟨q1, e3, c1⟩ := at1 i x1 a1
          rw [enumL_get, e3] at e
          cases e
          rw [Nat.zero_add]
          exact .new hT (.cons (.int _) (.cons (c1.mono s1 s2) .nil))
      · exact q1.elim
  · exact q1.elim
/-- i, i + 1, .. (n of them) -/
def rangeL (i : Int) (n : Nat) : List D := (List.range n).map fun (k : Nat) => .int (i + k)
theorem Serves.range {F : Hp} {io : List Addr} {i : Int} {n : Nat} : Serves F io (Itr i n) (rangeL i n) :=
  .of_walk walk_range (by simp [rangeL]) (fun _ _ _ _ => trivial) fun F' io' H j d v H' s1 s2 s3 e ⟨y1, y2⟩ => by
    subst y1 y2
    have hj : j < n := by
      have := (List.getElem?_eq_some_iff.mp e).1
      simpa [rangeL] using this
    have e : some (D.int (i + (j : Nat))) = some d := by simpa [rangeL, hj] using e
    cases e
    exact .here (.int _)
/-- range: ends that are small -/
def inR (i : Int) : Bool := decide (-1073741824 ≤ i ∧ i ≤ 1073741824)
theorem inR_of {i : Int} (h : inR i = true) : -(2 ^ 62) ≤ i ∧ i < 2 ^ 62 := by
  have h := of_decide_eq_true h
  constructor <;> omega
def sRg (g : SL) : SL := fun r m => bindR (g r m) fun ds m => match ds with
  | [.int j] => if inR j = true then .ok (rangeL 0 j.toNat) m else .bad
  | _ => .bad
def sRg2 (g : SL) : SL := fun r m => bindR (g r m) fun ds m => match ds with
  | [.int i, .int j] => if inR i = true ∧ inR j = true then .ok (rangeL i (j - i).toNat) m else .bad
  | _ => .bad
theorem di_range (hg : Gl X "range") (hm : X.mg "range" = none) (ha : DA X w [a] g) (hs : starEach [a] X.env = [(false, eval a X.env)] := by rfl) :
    DI X w tg (.Call (.Name "range" p) [a] [] pos) (sRg g) := PI.imp (pi_range1 hg hm ha hs) fun s H R ⟨x, r, m, Rl, q⟩ => by
  refine rd_bind Rl q fun ds m1 vs y H1 R1 p1 st1 q1 => ?_
  split at q1
  · rename_i j
    cases p1 with
    | cons r1 t =>
      cases t
      cases r1
      obtain ⟨hj, q1⟩ := Fin.ite q1
      exact ⟨j, rfl, (inR_of hj).1, (inR_of hj).2, q1 _ y H1 R1 .range .refl⟩
  · exact q1.elim
theorem di_range2 (hg : Gl X "range") (hm : X.mg "range" = none) (ha : DA X w [a, b] g) (hs : starEach [a, b] X.env = [(false, eval a X.env), (false, eval b X.env)] := by rfl) (hs2 : starEach [b] X.env = [(false, eval b X.env)] := by rfl) :
    DI X w tg (.Call (.Name "range" p) [a, b] [] pos) (sRg2 g) := PI.imp (pi_range2 hg hm ha hs hs2) fun s H R ⟨x, r, m, Rl, q⟩ => by
  refine rd_bind Rl q fun ds m1 vs y H1 R1 p1 st1 q1 => ?_
  split at q1
  · rename_i i j
    cases p1 with
    | cons r1 t =>
      cases r1
      cases t with
      | cons r2 t =>
        cases t
        cases r2
        obtain ⟨⟨h1, h2⟩, q1⟩ := Fin.ite q1
        exact ⟨i, j, rfl, ⟨(inR_of h1).1, (inR_of h1).2, (inR_of h2).1, (inR_of h2).2⟩, q1 _ y H1 R1 .range .refl⟩
  · exact q1.elim
end
end Dl
/-! The data layer: list comprehensions. -/
namespace Dl
open PySem PySem.Spec PyProof.Rows L2 TL

abbrev DTs (X : Cx) (w : Wi) (ifs : List Expr) (t : SB) : Prop := PTs X ifs (rd PB w t)
def Wi.no (w : Wi) : Wi := { w with W := fun _ _ _ _ => False }
def sYes : SB := fun _ m => .ok true m
/-- a refusal within is not told -/
def bindN {α β : Type} (r : R α) (f : α → Sto → R β) : R β := match r with
  | .ok a m => f a m
  | _ => .bad
def lcL (g : Gm) (t : SB) (f : SE) (r0 : Env) : List D → Sto → R (List D)
  | [], m => .ok [] m
  | d :: l, m => match g d r0 with
    | none => .bad
    | some r' => bindN (t r' m) fun b m => if b = true then bindN (f r' m) fun y m => bindN (lcL g t f r0 l m) fun ys m => .ok (y :: ys) m else lcL g t f r0 l m
/-- the slots wiped, none of which holds a thing of its own -/
def wipeE (r : Env) : List Nat → Env
  | [] => r
  | v :: vs => (wipeE r vs).set v none
def bare (r : Env) (v : Nat) : Bool := match r[v]? with
  | some (some (.lst _)) => false
  | some (some (.dct _ _)) => false
  | _ => true
def sLc (vs : List Nat) (i : SL) (g : Gm) (t : SB) (f : SE) : SE := fun r m => bindR (i r m) fun ds m => if ds.length ≤ LIM ∧ vs.all (bare r) = true then bindR (lcL g t f (wipeE r vs) ds m) fun l m => .ok (.lst l) m else .bad
section
variable {F F' : Hp} {io io' : List Addr} {H H' : Hp}
theorem Vars.hide : ∀ {r : Env} {s : L2.St} {A : List Addr} (i : Nat), Vars F io H r s A → bare r i = true → Vars F io H (r.set i none) (s.set i none) A
  | _, _, _, _, .nil, _ => .nil
  | _, _, _, 0, .skip t, _ => .skip t
  | _, _, _, 0, .cons c t, h => by
    cases c with
    | val p => exact .skip t
    | lst e p => cases h
  | _, _, _, i + 1, .skip t, h => .skip (Vars.hide i t (by simpa [bare] using h))
  | _, _, _, i + 1, .cons c t, h => .cons c (Vars.hide i t (by simpa [bare] using h))
theorem bare_set {r : Env} {i v : Nat} (h : bare r i = true) : bare (r.set v none) i = true := by
  unfold bare at h ⊢
  by_cases e : v = i
  · subst e
    by_cases hl : v < r.length
    · rw [List.getElem?_set_self hl]
    · rw [List.getElem?_eq_none (by simpa using hl)]
  · rw [List.getElem?_set_ne e]
    exact h
theorem bare_wipe {r : Env} {i : Nat} (h : bare r i = true) : ∀ vs : List Nat, bare (wipeE r vs) i = true
  | [] => h
  | v :: vs => bare_set (bare_wipe h vs)
theorem Vars.wipe {r : Env} {s : L2.St} {A : List Addr} (h : Vars F io H r s A) : ∀ (vs : List Nat), vs.all (bare r) = true → Vars F io H (wipeE r vs) (wipe s vs) A
  | [], _ => h
  | v :: vs, hb => by
    simp only [List.all_cons, Bool.and_eq_true] at hb
    exact (Vars.wipe h vs hb.2).hide v (bare_wipe hb.1 vs)
end
theorem wipe_get {s : L2.St} (vs : List Nat) (j : Nat) (hj : j ∉ vs) : (wipe s vs)[j]? = s[j]? := by
  induction vs with
  | nil => rfl
  | cons v vs ih =>
    unfold wipe
    rw [List.getElem?_set_ne (fun e => hj (by simp [e])), ih fun z => hj (List.mem_cons_of_mem _ z)]
theorem wipe_at {s : L2.St} (vs : List Nat) (j : Nat) (hj : j ∈ vs) (hl : j < s.length) : (wipe s vs)[j]? = some none := by
  induction vs with
  | nil => cases hj
  | cons v vs ih =>
    unfold wipe
    by_cases e : v = j
    · subst e
      rw [List.getElem?_set_self (by rw [wipe_length]; exact hl)]
    · rw [List.getElem?_set_ne e]
      exact ih ((List.mem_cons.mp hj).resolve_left fun z => e z.symm)
theorem Only.wipe {ws vs : List Nat} {s s' : L2.St} (h : Only ws s s') (hw : ∀ i ∈ ws, i ∈ vs) : wipe s' vs = wipe s vs := by
  refine List.ext_getElem? fun j => ?_
  by_cases hj : j ∈ vs
  · by_cases hl : j < s.length
    · rw [wipe_at vs j hj (by rw [h.1]; exact hl), wipe_at vs j hj hl]
    · rw [List.getElem?_eq_none (by rw [wipe_length, h.1]; omega), List.getElem?_eq_none (by rw [wipe_length]; omega)]
  · rw [wipe_get vs j hj, wipe_get vs j hj]
    exact h.2 j fun z => hj (hw j z)
theorem wipe_wipe {s : L2.St} (vs : List Nat) : wipe (wipe s vs) vs = wipe s vs := by
  refine List.ext_getElem? fun j => ?_
  by_cases hj : j ∈ vs
  · by_cases hl : j < s.length
    · rw [wipe_at vs j hj (by rw [wipe_length]; exact hl), wipe_at vs j hj hl]
    · rw [List.getElem?_eq_none (by rw [wipe_length, wipe_length]; omega), List.getElem?_eq_none (by rw [wipe_length]; omega)]
  · rw [wipe_get vs j hj]
section
variable {X : Cx} {w : Wi} {c elt tg iter : Expr} {ifs : List Expr} {scope : Scope} {own : List (Str × Nat)} {pos spos : Pos} {i : SL} {g : Gm} {t : SB} {f : SE} {ws vs : List Nat} {pos : Pos}
theorem dts_nil : DTs X w [] sYes := ⟨fun pins s σ H Q I ⟨x, r, m, R, q⟩ => pts_nil.run pins s σ H Q I (Fin.here R q rfl)⟩
theorem dts_one (h : DT X w c t) : DTs X w [c] t := pts_one h
theorem Fin.okN {α β γ : Type} {P : PP γ β} {x : Sx} {r : Env} {s : L2.St} {H : Hp} {Q : β → Hp → Prop} {a : R α} {k : α → Sto → R γ} (h : Fin P w x r s H Q (bindN a k)) : ∃ b m, a = .ok b m ∧ Fin P w x r s H Q (k b m) := by
  cases a with
  | ok b m => exact ⟨b, m, rfl, h⟩
  | exc c v m => exact h.elim
  | bad => exact h.elim
theorem Fin.bindN {α β γ δ : Type} {P : PP δ β} {x : Sx} {r : Env} {s : L2.St} {H : Hp} {Q : β → Hp → Prop} {a : R α} {k : α → Sto → R γ} {g : γ → Sto → R δ} (h : Fin P w x r s H Q (bindR (bindN a k) g)) : Fin P w x r s H Q (bindN a fun b m => bindR (k b m) g) := by
  cases a with
  | ok b m => exact h
  | exc c v m => exact h.elim
  | bad => exact h.elim
/-- the list in the making -/
structure Mk (D : Addr) (y : Sx) (H : Hp) (acc : List Dl.D) (us : List V) : Prop where
  at' : H D = some (.lst us)
  rep : Reps y.F y.io acc us
  nA : D ∉ y.A1 ++ y.A2
  nF : y.F D = none
theorem Mk.stay {D : Addr} {y z : Sx} {H H' : Hp} {acc : List Dl.D} {us : List V} (h : Mk D y H acc us) (st : StE y H z H') : Mk D z H' acc us := by
  have n2 : D ∉ y.A2 := fun q => h.nA (List.mem_append_right _ q)
  refine ⟨st.st.keep D _ h.at' n2, h.rep.mono st.st.F st.st.io, fun q => ?_, ?_⟩
  · rcases List.mem_append.mp q with q | q
    · rw [st.a1] at q
      exact h.nA (List.mem_append_left _ q)
    · rcases st.st.newA D q with q | q
      · exact n2 q
      · rw [h.at'] at q; cases q
  · cases e : z.F D with
    | none => rfl
    | some o =>
      rcases st.st.newF D h.nF (by rw [e]; exact fun z => by cases z) with q | q
      · rw [h.at'] at q; cases q
      · exact absurd q n2
theorem Mk.put {D : Addr} {y : Sx} {H : Hp} {acc : List Dl.D} {us : List V} {d : Dl.D} {v : V} {r : Env} {m : Sto} {s : L2.St} (h : Mk D y H acc us) (R : Rel y r m s H) (p : Rep y.F y.io d v) :
    Mk D y (upd H D (.lst (us ++ [v]))) (acc ++ [d]) (us ++ [v]) ∧ Rel y r m s (upd H D (.lst (us ++ [v]))) ∧ ∀ {x : Sx} {H1 : Hp}, H1 D = none → StE x H1 y H → StE x H1 y (upd H D (.lst (us ++ [v]))) := by
  have ne1 : ∀ b ∈ y.A1, b ≠ D := fun b hb e => h.nA (List.mem_append_left _ (e ▸ hb))
  have ne2 : ∀ b ∈ y.A2, b ≠ D := fun b hb e => h.nA (List.mem_append_right _ (e ▸ hb))
  refine ⟨⟨upd_same, h.rep.append (.cons p .nil), h.nA, h.nF⟩, ⟨fun b o e => ?_, R.vars.mono (.refl _) (.refl _) fun b hb o e => by rw [upd_ne (ne1 b hb)]; exact e, R.sto.mono (.refl _) (.refl _) fun b hb o e => by rw [upd_ne (ne2 b hb)]; exact e, R.nd, R.nF⟩, fun {x H1} hD st => ⟨⟨st.st.F, st.st.io, fun b o e n => ?_, fun b e => ?_, st.st.newF, st.st.newA⟩, st.a1⟩⟩
  · rw [upd_ne (ne_of_none e h.nF)]
    exact R.sub _ _ e
  · rw [upd_ne (ne_of_none e hD)]
    exact st.st.keep b o e n
  · by_cases hb : b = D
    · subst hb; exact hD
    · rw [upd_ne hb] at e
      exact st.st.there b e
theorem Stp.trans {x y z : Sx} {H H1 H2 : Hp} (a : Stp x.A2 x H y H1) (b : Stp y.A2 y H1 z H2) : Stp x.A2 x H z H2 := by
  refine ⟨a.F.trans b.F, a.io.trans b.io, fun c o h n => b.keep c o (a.keep c o h n) fun q => ?_, fun c h => a.there c (b.there c h), fun c h1 h2 => ?_, fun c h => ?_⟩
  · rcases a.newA c q with q | q
    · exact n q
    · rw [h] at q; cases q
  · cases q : y.F c with
    | none =>
      rcases b.newF c q h2 with w | w
      · exact .inl (a.there c w)
      · exact (a.newA c w).elim .inr .inl
    | some o => exact a.newF c h1 (by rw [q]; exact fun z => by cases z)
  · rcases b.newA c h with q | q
    · exact a.newA c q
    · exact .inr (a.there c q)
/-- the slots as they were, a block's objects as they are -/
theorem Rel.back {x y : Sx} {r r' : Env} {m m' : Sto} {s s' : L2.St} {H H' : Hp} (R : Rel x r m s H) (st : Stp x.A2 x H y H') (R' : Rel y r' m' s' H') : Rel { y with A1 := x.A1 } r m' s H' ∧ StE x H { y with A1 := x.A1 } H' := by
  have k : Keep x.A1 H H' := fun b hb o e => st.keep b o e fun z => (List.nodup_append.mp R.nd).2.2 b hb b z rfl
  have hn : ∀ b ∈ x.A1, H b ≠ none := R.vars.there
  refine ⟨⟨R'.sub, R.vars.mono st.F st.io k, R'.sto, List.nodup_append.mpr ⟨(List.nodup_append.mp R.nd).1, (List.nodup_append.mp R'.nd).2.1, fun a ha b hb e => ?_⟩, fun b hb => ?_⟩, ⟨⟨st.F, st.io, st.keep, st.there, st.newF, st.newA⟩, rfl⟩⟩
  · subst e
    rcases st.newA a hb with z | z
    · exact (List.nodup_append.mp R.nd).2.2 a ha a z rfl
    · exact hn a ha z
  · rcases List.mem_append.mp hb with hb | hb
    · cases e : y.F b with
      | none => rfl
      | some o =>
        rcases st.newF b (R.nF b (List.mem_append_left _ hb)) (by rw [e]; exact fun z => by cases z) with z | z
        · exact absurd z (hn b hb)
        · exact absurd rfl ((List.nodup_append.mp R.nd).2.2 b hb b z)
    · exact R'.nF b (List.mem_append_right _ hb)
theorem lc_rd (hw : ∀ i ∈ ws, i ∈ vs) (s : L2.St) (H : Hp) (Q : VK) (q : rd PV w (sLc vs i g t f) s H Q) : tLc (rd PIt w i) (rdG ws g) (rd PB w.no t) (rd PV w.no f) vs s H Q := by
  obtain ⟨x, r, m, R, q⟩ := q
  refine rd_bind R q fun ds m1 J y1 H1 R1 sv st1 q1 => ?_
  obtain ⟨⟨hz, hb⟩, q1⟩ := Fin.ite q1
  intro D hD
  -- the state before turn i
  refine ⟨fun i n H => n = ds.length - i ∧ i ≤ ds.length ∧ ∃ y m acc us, Rel y (wipeE r vs) m (wipe s vs) H ∧ Mk D y H acc us ∧ acc.length ≤ i ∧ StE y1 H1 y H ∧ Fin PV w y1 r s H1 Q (bindR (lcL g t f (wipeE r vs) (ds.drop i) m) fun l m => .ok (.lst (acc ++ l)) m), ⟨ds.length, by simp, Nat.zero_le _, y1, m1, [], [], ?_, ⟨upd_same, .nil, fun z => R1.there D z hD, ?_⟩, Nat.zero_le _, ?_, by simpa using q1⟩, ?_⟩
  · refine ⟨fun b o e => ?_, (R1.vars.wipe vs hb).mono (.refl _) (.refl _) fun b hb o e => ?_, R1.sto.mono (.refl _) (.refl _) fun b hb o e => ?_, R1.nd, R1.nF⟩
    · have e := R1.sub _ _ e
      rw [upd_ne (ne_of_none e hD)]
      exact e
    · rw [upd_ne (ne_of_none e hD)]
      exact e
    · rw [upd_ne (ne_of_none e hD)]
      exact e
  · cases e : y1.F D with
    | none => rfl
    | some o => rw [R1.sub _ _ e] at hD; cases hD
  · refine ⟨⟨.refl _, .refl _, fun b o e _ => ?_, fun b e => ?_, fun b h1 h2 => absurd h1 h2, fun b h => .inl h⟩, rfl⟩
    · rw [upd_ne (ne_of_none e hD)]
      exact e
    · by_cases hbD : b = D
      · subst hbD; exact hD
      · rw [upd_ne hbD] at e
        exact e
  · rintro i n H ⟨rfl, hi, y, m, acc, us, R, mk, hacc, st, q⟩
    by_cases hlt : i < ds.length
    · refine .inr ⟨sv.go y.F H i st.st.F R.sub hlt, fun H' => ∃ y m acc us, Rel y (wipeE r vs) m (wipe s vs) H' ∧ Mk D y H' acc us ∧ acc.length ≤ i + 1 ∧ StE y1 H1 y H' ∧ Fin PV w y1 r s H1 Q (bindR (lcL g t f (wipeE r vs) (ds.drop (i + 1)) m) fun l m => .ok (.lst (acc ++ l)) m), fun H' h' => ⟨ds.length - (i + 1), by omega, rfl, hlt, h'⟩, fun v H' hy => ?_⟩
      obtain ⟨z, Rz, pz, stz⟩ := R.yl (sv.yld y.F y.io H i ds[i] v H' st.st.F st.st.io R.sub (List.getElem?_eq_getElem hlt) hy)
      have mkz := mk.stay stz
      have hd : ds.drop i = ds[i] :: ds.drop (i + 1) := List.drop_eq_getElem_cons hlt
      rw [hd] at q
      have q : Fin PV w y1 r s H1 Q (bindR (match g ds[i] (wipeE r vs) with
        | none => .bad
        | some r' => bindN (t r' m) fun b m => if b = true then bindN (f r' m) fun y m => bindN (lcL g t f (wipeE r vs) (ds.drop (i + 1)) m) fun ys m => .ok (y :: ys) m else lcL g t f (wipeE r vs) (ds.drop (i + 1)) m) fun l m => .ok (.lst (acc ++ l)) m) := q
      refine ⟨z, wipeE r vs, m, ds[i], Rz, pz, ?_⟩
      cases eg : g ds[i] (wipeE r vs) with
      | none => rw [eg] at q; exact q.elim
      | some r' =>
        rw [eg] at q
        intro s' z' R' e1 e2 e3 e4 o'
        refine ⟨(o'.wipe hw).trans (wipe_wipe vs), z', r', m, R', ?_⟩
        have q : Fin PV w y1 r s H1 Q (bindR (bindN (t r' m) fun b m => if b = true then bindN (f r' m) fun y m => bindN (lcL g t f (wipeE r vs) (ds.drop (i + 1)) m) fun ys m => .ok (y :: ys) m else lcL g t f (wipeE r vs) (ds.drop (i + 1)) m) fun l m => .ok (.lst (acc ++ l)) m) := q
        have st' : Stp y1.A2 y1 H1 z' H' := Stp.trans (Stp.trans st.st stz.st) ⟨by rw [e1]; exact .refl _, by rw [e2]; exact .refl _, fun _ _ h _ => h, fun _ h => h, fun b h1 h2 => by rw [e1] at h2; exact absurd h1 h2, fun b h => .inl (by rw [← e3]; exact h)⟩
        have sub1 : ∀ b ∈ z'.A1, b ∈ z.A1 := e4
        have mk' : Mk D z' H' acc us := ⟨mkz.at', by rw [e1, e2]; exact mkz.rep, fun hm => mkz.nA (by
          rcases List.mem_append.mp hm with hm | hm
          · exact List.mem_append_left _ (e4 _ hm)
          · rw [e3] at hm; exact List.mem_append_right _ hm), by rw [e1]; exact mkz.nF⟩
        have hR1 : Rel y1 (wipeE r vs) m1 (wipe s vs) H1 := ⟨R1.sub, R1.vars.wipe vs hb, R1.sto, R1.nd, R1.nF⟩
        obtain ⟨b, m2, et, q⟩ := Fin.okN (Fin.bindN q)
        rw [et]
        intro b' u H4 R4 p4 st4
        cases p4
        have mk4 := mk'.stay st4
        have st4' := Stp.trans st' st4.st
        have back : ∀ {u2 : Sx} {H5 : Hp} {m5 : Sto} {r5 : Env} {s5 : L2.St} {acc5 : List Dl.D} {us5 : List V}, Rel u2 r5 m5 s5 H5 → Stp y1.A2 y1 H1 u2 H5 → Mk D u2 H5 acc5 us5 → Rel { u2 with A1 := y1.A1 } (wipeE r vs) m5 (wipe s vs) H5 ∧ StE y1 H1 { u2 with A1 := y1.A1 } H5 ∧ Mk D { u2 with A1 := y1.A1 } H5 acc5 us5 := fun {u2 H5 m5 r5 s5 acc5 us5} R5 st5 mk5 => by
          obtain ⟨R6, st6⟩ := hR1.back st5 R5
          refine ⟨R6, st6, ⟨mk5.at', mk5.rep, fun hm => ?_, mk5.nF⟩⟩
          rcases List.mem_append.mp hm with hm | hm
          · exact R1.there D (List.mem_append_left _ hm) hD
          · exact mk5.nA (List.mem_append_right _ hm)
        cases b with
        | false =>
          rw [if_neg Bool.false_ne_true] at q ⊢
          obtain ⟨R6, st6, mk6⟩ := back R4 st4' mk4
          exact ⟨_, m2, acc, us, R6, mk6, by omega, st6, q⟩
        | true =>
          rw [if_pos rfl] at q ⊢
          obtain ⟨d, m3, ef, q⟩ := Fin.okN (Fin.bindN q)
          obtain ⟨ys, m4, el, q⟩ := Fin.okN (Fin.bindN q)
          refine ⟨u, r', m2, R4, ?_⟩
          rw [ef]
          intro v5 o H5 R5 p5 st5
          have mk5 := mk4.stay st5
          have st5' := Stp.trans st4' st5.st
          obtain ⟨R6, st6, mk6⟩ := back R5 st5' mk5
          obtain ⟨mk7, R7, st7⟩ := mk6.put R6 p5
          refine ⟨us, mk5.at', ?_, _, m3, acc ++ [d], us ++ [v5], R7, mk7, by simp; omega, st7 hD st6, ?_⟩
          · have := mk5.rep.length
            rw [← lim_eq]
            omega
          · rw [el]
            have q : Fin PV w y1 r s H1 Q (.ok (.lst (acc ++ (d :: ys))) m4) := q
            have e : acc ++ [d] ++ ys = acc ++ (d :: ys) := by simp
            show Fin PV w y1 r s H1 Q (.ok (.lst (acc ++ [d] ++ ys)) m4)
            rw [e]
            exact q
    · have e : i = ds.length := by omega
      subst e
      refine .inl ⟨sv.stop y.F H st.st.F R.sub, ?_⟩
      rw [List.drop_length] at q
      have q : Fin PV w y1 r s H1 Q (.ok (.lst (acc ++ [])) m) := q
      rw [List.append_nil] at q
      have hs : Sub y.F (upd y.F D (.lst us)) := fun b o e => by rw [upd_ne (ne_of_none e mk.nF)]; exact e
      refine q (.ref D) { y with F := upd y.F D (.lst us) } H ⟨fun b o e => ?_, ?_, R.sto.mono hs (.refl _) fun b hb o e => e, R.nd, fun b hb => ?_⟩ (.lst upd_same (mk.rep.mono hs (.refl _))) ⟨⟨st.st.F.trans hs, st.st.io, st.st.keep, st.st.there, fun b h1 h2 => ?_, st.st.newA⟩, st.a1⟩
      · have e : upd y.F D (.lst us) b = some o := e
        by_cases hbD : b = D
        · subst hbD
          rw [upd_same] at e
          cases e
          exact mk.at'
        · rw [upd_ne hbD] at e
          exact R.sub _ _ e
      · show Vars _ _ _ _ _ y.A1
        rw [st.a1]
        exact R1.vars.mono (st.st.F.trans hs) st.st.io fun b hb o e => st.st.keep b o e fun z => (List.nodup_append.mp R1.nd).2.2 b hb b z rfl
      · show upd y.F D (.lst us) b = none
        rw [upd_ne (fun e => mk.nA (by rw [← e]; exact hb))]
        exact R.nF b hb
      · have h2 : upd y.F D (.lst us) b ≠ none := h2
        by_cases hbD : b = D
        · subst hbD; exact .inl hD
        · rw [upd_ne hbD] at h2
          exact st.st.newF b h1 h2
theorem de_lc {X : Cx} {w : Wi} {elt tg iter : Expr} {ifs : List Expr} {scope : Scope} {pos : Pos} {i : SL} {g : Gm} {t : SB} {f : SE} {ws : List Nat} (own : List (Str × Nat)) (hc : X.calm = true) (hN : X.N.Nodup) (hi : DI X w tg iter i) (ok : BlkOk X.N X.env.scope scope own)
    (hg : ∀ (s : Shared) (H : Hp) (C : Addr) (cl : List (Str × Addr)) (fp : List Addr), DG (X.blk s H scope (compEnvC scope cl C X.env) fp) tg ws g) (ht : ∀ (s : Shared) (H : Hp) (C : Addr) (cl : List (Str × Addr)) (fp : List Addr), DTs (X.blk s H scope (compEnvC scope cl C X.env) fp) w.no ifs t)
    (he : ∀ (s : Shared) (H : Hp) (C : Addr) (cl : List (Str × Addr)) (fp : List Addr), DE (X.blk s H scope (compEnvC scope cl C X.env) fp) w.no elt f) (hw : ∀ i ∈ ws, i ∈ own.map (·.2) := by decide) (hs : ∀ x, foldedSetIterable iter X.env x = pure x := by intro _; rfl) :
    DE X w (.ListComp elt [⟨tg, iter, ifs, 0⟩] scope pos) (sLc (own.map (·.2)) i g t f) :=
  PE.imp (pe_lc hc hN hi ok hg ht he hs) fun s H Q q => lc_rd hw s H Q q
/-- y = [..], y a local -/
theorem ds_setLc {X : Cx} {w : Wi} {k : Nat} {y : Str} {py : Pos} {elt tg iter : Expr} {ifs : List Expr} {scope : Scope} {pos spos : Pos} {i : SL} {g : Gm} {t : SB} {f : SE} {ws : List Nat} (own : List (Str × Nat)) (hc : X.calm = true) (hN : X.N.Nodup) (hy : X.N[k]? = some y) (hyl : X.env.scope.names.lookup y = some .local)
    (hsw : swapsWith (.ListComp elt [⟨tg, iter, ifs, 0⟩] scope pos) (some (.Name y py)) spos.line X.env = pure true) (hi : DI X w tg iter i) (ok : BlkOk X.N X.env.scope scope own)
    (hg : ∀ (s : Shared) (H : Hp) (C : Addr) (cl : List (Str × Addr)) (fp : List Addr), DG (X.blk s H scope (compEnvC scope cl C X.env) fp) tg ws g) (ht : ∀ (s : Shared) (H : Hp) (C : Addr) (cl : List (Str × Addr)) (fp : List Addr), DTs (X.blk s H scope (compEnvC scope cl C X.env) fp) w.no ifs t)
    (he : ∀ (s : Shared) (H : Hp) (C : Addr) (cl : List (Str × Addr)) (fp : List Addr), DE (X.blk s H scope (compEnvC scope cl C X.env) fp) w.no elt f) (hw : ∀ i ∈ ws, i ∈ own.map (·.2) := by decide) (hs : ∀ x, foldedSetIterable iter X.env x = pure x := by intro _; rfl) :
    DS X w (.Assign [.Name y py] (.ListComp elt [⟨tg, iter, ifs, 0⟩] scope pos) spos) (sAsg (gN k) (sLc (own.map (·.2)) i g t f)) :=
  PS.imp (ps_setLc hc hN hy hyl hsw hi ok hg ht he hs) fun E s H ⟨x, r, m, R, q⟩ => by
    have h : rd PV w (sLc (own.map (·.2)) i g t f) s H fun v H1 => L2.gName k v s H1 E.nx := by
      refine rd_bindS R q fun d m1 v y H1 R1 p1 st1 q1 => ?_
      obtain ⟨z, R', e1, e2, e3, e4⟩ := R1.putV k p1
      exact FinS.shift (.same e1 e2 e3 fun b hb => .inl (e4 b hb)) q1 _ z H1 R' .refl
    exact lc_rd hw s H _ h
end
end Dl
/-! The data layer: defs and their calls. -/
namespace Dl
open PySem PySem.Spec PyProof.Rows L2 TL

/-- what is held in common: the classes' places, their fields' names -/
structure Tf where
  T : Nat → Addr
  fld : Nat → Str
def Tf.wi (t : Tf) (E : XK) : Wi := ⟨t.T, t.fld, fun cls d _ H => E cls d H⟩
abbrev Wi.tf (w : Wi) : Tf := ⟨w.T, w.fld⟩
abbrev Fd := List D → Sto → R D
/-- a def's promise -/
def spF (t : Tf) (n : Nat) (φ : Fd) : Sp := fun vs H Q E => vs.length = n ∧ ∃ x m ds, Rel x [] m [] H ∧ Reps x.F x.io ds vs ∧ Fin PV (t.wi E) x [] [] H Q (φ ds m)
def startE (N : List Str) (ds : List D) : Env := ds.map (fun d => some (.val d)) ++ List.replicate (N.length - ds.length) none
/-- how a body's end is a call's -/
def ofFl : Fl → R D
  | .nx _ m => .ok .non m
  | .rt d m => .ok d m
  | .exc c v _ m => .exc c v m
  | _ => .bad
def fD (N : List Str) (b : SS) : Fd := fun ds m => ofFl (b (startE N ds) m)
def callF (n : Nat) (φ : Fd) : Fd := fun ds m => if ds.length = n then φ ds m else .bad
section
variable {x y z : Sx} {r r' : Env} {m m' : Sto} {s s' : L2.St} {H H' H1 : Hp}
theorem Stp.a1 {A B : List Addr} (h : Stp x.A2 x H y H') : Stp x.A2 { x with A1 := A } H { y with A1 := B } H' := ⟨h.F, h.io, h.keep, h.there, h.newF, h.newA⟩
theorem Vars.no_xd {F : Hp} {io : List Addr} : ∀ {r : Env} {s : L2.St} {A : List Addr}, Vars F io H r s A → ∀ b ∈ A, ∀ l, H b ≠ some (.xd l)
  | _, _, _, .nil => fun b hb => by cases hb
  | _, _, _, .skip t => Vars.no_xd t
  | _, _, _, .cons c t => fun b hb l e => by
    rcases List.mem_append.mp hb with q | q
    · cases c with
      | val p => cases q
      | lst e1 p =>
        have q := List.mem_singleton.mp q
        subst q
        rw [e1] at e
        cases e
    · exact Vars.no_xd t b q l e
/-- an expression's end, the slots put back -/
theorem Fin.out {w w' : Wi} (hT : w'.T = w.T) (hf : w'.fld = w.fld) {Q : VK} {a : R D} (R : Rel x r m s H) (hW : ∀ cls d H', w.W cls d s H' → w'.W cls d [] H') (h : Fin PV w x r s H Q a) : Fin PV w' { x with A1 := [] } [] [] H Q a := by
  have conv : ∀ {z : Sx} {H' : Hp}, StE { x with A1 := [] } H z H' → Stp x.A2 x H z H' := fun st => ⟨st.st.F, st.st.io, st.st.keep, st.st.there, st.st.newF, st.st.newA⟩
  cases a with
  | ok d m' =>
    intro v z H' Rz p st
    obtain ⟨R', st'⟩ := R.back (conv st) Rz
    exact h v { z with A1 := x.A1 } H' R' p st'
  | exc c v m' =>
    intro cls d z H' Rz p st
    obtain ⟨R', st'⟩ := R.back (conv st) Rz
    refine hW _ _ _ (h cls d { z with A1 := x.A1 } H' R' ⟨by rw [← hT]; exact p.1, ?_⟩ st')
    rcases p.2 with q | ⟨a, u, e1, e2, e3, e4, e5⟩
    · exact .inl q
    · rw [hf] at e2
      refine .inr ⟨a, u, e1, e2, e3, fun hm => ?_, e5⟩
      rcases List.mem_append.mp hm with hm | hm
      · exact R'.vars.no_xd a hm _ e2
      · exact e4 (List.mem_append_right _ hm)
  | bad => exact h.elim
section
variable {X : Cx} {w : Wi} {k n : Nat} {f : Addr} {fd : FuncData} {ps : List Str} {φ : Fd} {nm : Str} {p pos : Pos} {e : Expr} {es : List Expr} {g : SL}
theorem rd_fn (q : rd PV w (sCall (callF n φ) g) s H (Q := fun v H => Q v H)) {t : Tf} (ht : t = w.tf) : rd (fun x H ds vs => Reps x.F x.io ds vs) w g s H fun vs H1 => spF t n φ vs H1 Q (WE w.W s) := by
  obtain ⟨x, r, m, R, q⟩ := q
  subst ht
  refine rd_bind R q fun ds m1 vs y H1 R1 p1 st1 q1 => ?_
  obtain ⟨hl, q1⟩ := Fin.ite q1
  refine ⟨by rw [← p1.length]; exact hl, { y with A1 := [] }, m1, ds, R1.leave, p1, ?_⟩
  exact Fin.out (w := w) (w' := w.tf.wi (WE w.W s)) rfl rfl R1 (fun _ _ _ h => h) q1
/-- f(e, ..) -/
theorem de_call {t : Tf} (ht : t = w.tf) (F : FnOk X.prog X.w X.K X.mg X.base (L2.CX X.prog X.w) k f fd ps (spF t n φ)) (hr : Room k X.A) (hg : Gl X nm) (hm : X.mg nm = some (.ref f)) (hk : PySem.W.keepIn X.K (.ref f) = true) (hb : Binds X.K fd ps []) (tk : L2.Takes X w.W)
    (ha : DA X w (e :: es) g) (hdb : (nm == ("__debug__" : Str)) = false := by decide) (he : starEach (e :: es) X.env = (false, eval e X.env) :: starEach es X.env := by rfl) (hpl : (backTo pos (starEach es X.env)).any (·.1) = false := by rfl) :
    DE X w (.Call (.Name nm p) (e :: es) [] pos) (sCall (callF n φ) g) :=
  PE.imp (pe_callS F hr hg hm hk hb (fun σ => passAt tk σ) ha hdb he hpl) fun s H Q q => rd_fn q ht
end
theorem start_vars {F : Hp} {io : List Addr} : ∀ {ds : List D} {vs : List V}, Reps F io ds vs → ∀ k : Nat, Vars F io H (ds.map (fun d => some (.val d)) ++ List.replicate k none) (vs.map some ++ List.replicate k none) []
  | _, _, .nil, k => by
    induction k with
    | zero => exact .nil
    | succ k ih => exact .skip ih
  | _, _, .cons p t, k => .cons (A0 := []) (.val p) (start_vars t k)
theorem Rel.start {N : List Str} {ds : List D} {vs : List V} (R : Rel x [] m [] H) (p : Reps x.F x.io ds vs) : Rel x (startE N ds) m (L2.start N vs) H := by
  have e : x.A1 = [] := by
    have := R.vars
    cases h : x.A1 with
    | nil => rfl
    | cons a l => rw [h] at this; cases this
  refine ⟨R.sub, ?_, R.sto, R.nd, R.nF⟩
  rw [e]
  unfold startE L2.start
  rw [p.length]
  exact start_vars p _
/-- a body's end by a call's -/
theorem FinS.of_call {w : Wi} {E : XK} {t : Tf} {N : List Str} {b : SS} {ds : List D} {Q : VK} (ht : w = t.wi E) (R : Rel x [] m [] H) (h : Fin PV (t.wi E) x [] [] H Q (fD N b ds m)) : FinS w x H { nx := fun _ H' => Q .non H', rt := Q } (b (startE N ds) m) := by
  subst ht
  have e : x.A1 = [] := by
    have := R.vars
    cases h : x.A1 with
    | nil => rfl
    | cons a l => rw [h] at this; cases this
  have conv : ∀ {z : Sx} {H' : Hp}, StS x H z H' → z.A1 = [] → StE x H z H' := fun st ez => ⟨by have q := st.st; rw [e, List.nil_append] at q; exact q, by rw [ez, e]⟩
  have convA : ∀ {z : Sx} {H' : Hp}, StS x H z H' → StE x H { z with A1 := [] } H' := fun st => ⟨by
    have q := st.st
    rw [e, List.nil_append] at q
    exact ⟨q.F, q.io, q.keep, q.there, q.newF, q.newA⟩, by show [] = x.A1; rw [e]⟩
  unfold fD at h
  cases k : b (startE N ds) m with
  | nx r' m' =>
    rw [k] at h
    intro s' z H' Rz st
    exact h .non { z with A1 := [] } H' Rz.leave .non (convA st)
  | rt d m' =>
    rw [k] at h
    intro v z H' Rz p st
    have ez : z.A1 = [] := by
      have := Rz.vars
      cases h : z.A1 with
      | nil => rfl
      | cons a l => rw [h] at this; cases this
    exact h v z H' Rz p (conv st ez)
  | bk r' m' => rw [k] at h; exact h.elim
  | ct r' m' => rw [k] at h; exact h.elim
  | exc c v r' m' =>
    rw [k] at h
    intro cls d s' z H' Rz p st
    refine h cls d { z with A1 := [] } H' Rz.leave ⟨p.1, ?_⟩ (convA st)
    rcases p.2 with q | ⟨a, u, e1, e2, e3, e4, e5⟩
    · exact .inl q
    · exact .inr ⟨a, u, e1, e2, e3, fun hm => e4 (List.mem_append_right _ (by simpa using hm)), e5⟩
  | bad => rw [k] at h; exact h.elim
end
section
variable {P : Program} {w : World} {K : PySem.W.Frag} {mg : Str → Option Value} {base : Heap} {x qual : Str} {st : Stmt} {f : Addr} {fd : FuncData} {N ps : List Str} {k : Nat} {t : Tf} {b : SS} {φ ψ : Fd}
/-- a def by its body -/
theorem fn_def (F : Fun K x qual st f fd) (S : FnScope N ps (defScope st))
    (hbody : ∀ (cdv : Value) (A : Around) (outer : List PySem.Env) (s : Shared) (H : Hp) (E : XK), Room k (A.deeper (envOfC qual (defScope st) s.heap.objs.size f cdv)) → DSs (cxOf (L2.CX P w) P w K mg base N qual (defScope st) f cdv A outer s H E) (t.wi E) (defBody st) b) :
    FnOk P w K mg base (L2.CX P w) (k + 1) f fd ps (spF t ps.length (fD N b)) := by
  refine F.okX S (fun vs H Q E h => h.1) fun cdv A outer s H vs Q E hr h => ⟨_, hbody cdv A outer s H E hr, ?_⟩
  obtain ⟨hl, x, m, ds, R, p, q⟩ := h
  exact ⟨x, _, m, R.start p, FinS.of_call rfl R q⟩
/-- another telling of the same -/
theorem fn_as {n : Nat} (F : FnOk P w K mg base (L2.CX P w) k f fd ps (spF t n φ)) (h : ∀ ds m, ds.length = n → ψ ds m = .bad ∨ ψ ds m = φ ds m) : FnOk P w K mg base (L2.CX P w) k f fd ps (spF t n ψ) :=
  F.imp fun vs H Q E ⟨hl, x, m, ds, R, p, q⟩ => ⟨hl, x, m, ds, R, p, by
    rcases h ds m (by rw [p.length]; exact hl) with e | e
    · rw [e] at q; exact q.elim
    · rw [e] at q; exact q⟩
end
end Dl
/-! The data layer: a sign taken out of a written text, where the sign has just been read. -/
namespace Dl
open PySem PySem.Spec PyProof.Rows L2 TL
section
variable {X : Cx} {pins : List (Addr × Obj)} {σ : L2.St} {H : Hp} {s : Shared} {h' : Heap}
/-- a local name stored, its very value known -/
theorem stored {m : Str → Option Value} {i : Nat} {x : Str} {v : V} {u : Value} {k : Nat} (I : Inv X pins σ H s) (hN : X.N.Nodup) (hi : X.N[i]? = some x) (hk : X.env.scope.names.lookup x = some .local) (r : RelV v u)
    (hl : ∀ (i : Nat) (x : Str) (v : V), X.N[i]? = some x → σ[i]? = some (some v) → Vis X.env.scope x → ∃ u, RelV v u ∧ Look X.env s.heap m x u)
    (hn : s.heap.Ns X.env.locals m) (hn' : h'.Ns X.env.locals fun y => if y = x then some u else m y) (sb : Heap.SameBut X.env.locals s.heap h') : Inv X pins (σ.set i (some v)) H { s with heap := h', toks := k } := by
  have old : ∀ b o, X.s_0.heap.get? b = some o → b ≠ X.env.locals := fun b o e => Nat.ne_of_lt (Nat.lt_of_lt_of_le (Heap.lt_size e) I.ok.above)
  have lenσ : i < σ.length := by rw [I.len]; exact (List.getElem?_eq_some_iff.mp hi).1
  have out : ∀ a o, H a = some o → ∀ c, c = a ∨ H c = some (.own a) → c ≠ X.env.locals := fun a o e c hc z => by
    rcases hc with q | q
    · rw [← q, z, I.free] at e; cases e
    · rw [z, I.free] at q; cases q
  constructor
  · exact I.ok
  · exact I.os
  · exact I.bare
  · constructor
    · exact fun b o e n h1 h2 => (sb.2 b (old b o e)).trans (I.base.keep b o e n h1 h2)
    · exact fun b o e n h1 h2 => by
        obtain ⟨sl, q⟩ := I.base.slot b o e n h1 h2
        exact ⟨sl, (sb.2 b (old b o e)).trans q⟩
    · exact I.base.free
    · exact fun b o e h2 => by
        obtain ⟨o', q⟩ := I.base.there b o e h2
        exact ⟨o', (sb.2 b (old b o e)).trans q⟩
    · exact I.base.tups
    · exact I.base.frzs
    · exact I.base.tbls
  · refine ⟨_, hn', fun j y w e1 e2 e3 => ?_⟩
    by_cases hj : i = j
    · subst hj
      rw [List.getElem?_set_self lenσ] at e2
      rw [hi] at e1
      cases e1
      cases e2
      exact ⟨u, r, .inl ⟨hk, if_pos rfl⟩⟩
    · rw [List.getElem?_set_ne hj] at e2
      obtain ⟨u', r', q⟩ := hl j y w e1 e2 e3
      refine ⟨u', r', q.elim (fun q => .inl ⟨q.1, ?_⟩) fun q => .inr ⟨q.1, ?_⟩⟩
      · show (if y = x then some u else m y) = some u'
        rw [if_neg fun (z : y = x) => hj (nodup_ix hN hi (by rw [← z]; exact e1))]
        exact q.2
      · obtain ⟨c, e4, e5⟩ := q.2
        exact ⟨c, e4, e5.sameBut sb (I.cne y c e4)⟩
  · intro y c e
    obtain ⟨w, q⟩ := I.cell y c e
    exact ⟨w, q.sameBut sb (I.cne y c e)⟩
  · exact I.free
  · exact I.freeC
  · intro p hp
    obtain ⟨e, q1, q2, q3⟩ := I.pin p hp
    exact ⟨(sb.2 p.1 q2).trans e, q1, q2, q3⟩
  · exact fun a o e => (I.hok a o e).stay (fun c w hc q => (sb.2 c (out a o e c hc)).trans q) (fun _ q => q) fun _ _ q => q
  · rw [List.length_set]
    exact I.len
end
/-- two statements: a sign is read and stored beside another value; then a sign of what's left without it -/
def sStrike (L : List Nat) (i j l : Nat) (fa fb fd : SE) (g : SS) : SS := fun r m => bindS r (fa r m) fun x m => match x with
  | .int k => if 0 ≤ k then match L[k.toNat]? with
    | some c => bindS r (fb r m) fun y m => bindS ((r.set i (some (.val (.str [c])))).set j (some (.val y))) (fd ((r.set i (some (.val (.str [c])))).set j (some (.val y))) m) fun z m => match z with
      | .int k2 => if 0 ≤ k2 then match (L.filter (· != c))[k2.toNat]? with
        | some c2 => g (((r.set i (some (.val (.str [c])))).set j (some (.val y))).set l (some (.val (.str [c2])))) m
        | none => .bad else .bad
      | _ => .bad
    | none => .bad else .bad
  | _ => .bad
theorem repl_filter (c : Nat) : ∀ L : List Nat, StrLaws.replL [c] [] L = L.filter (· != c)
  | [] => StrLaws.replL_nil
  | a :: L => by
    by_cases e : a = c
    · subst e
      rw [StrLaws.replL_hit (by simp) (by simp)]
      simpa using repl_filter a L
    · rw [StrLaws.replL_miss (by simpa using e), List.filter_cons_of_pos (by simpa using e), repl_filter c L]
theorem strike_is (L : List Nat) (c : Nat) : Txt.replace ⟨L.toArray⟩ ⟨#[c]⟩ ⟨#[]⟩ = ⟨(L.filter (· != c)).toArray⟩ := by
  refine ext_tl ?_
  have h := StrLaws.replace_list (x := ⟨L.toArray⟩) (y := ⟨#[c]⟩) (z := ⟨#[]⟩) (by simp [Str.length])
  show (Txt.replace ⟨L.toArray⟩ ⟨#[c]⟩ ⟨#[]⟩).cps.toList = _
  rw [h]
  simpa using repl_filter c L
section
variable {X : Cx} {w : Wi} {a b d : Expr} {fa fb fd : SE} {g : SS} {rest : List Stmt} {L : List Nat} {S1 S2 em : Str} {i j l : Nat} {n k y : Str} {j1 j2 j3 kt k2 : Nat} {c1 c2 c3 px py pt pt2 pa pos1 pz q apos cpos pd pos2 : Pos}
/-- the item at a place of a written text: its token is new -/
theorem raw_item {pins : List (Addr × Obj)} {s : Shared} {σ : L2.St} {H : Hp} {K : V → Hp → Prop} {Q : Value → Shared → Prop} (eS : S1 = ⟨L.toArray⟩) (hi : PlainIxT a) {ta : TE} (ha : PE X a ta) (I : Inv X pins σ H s) (h : ta σ H K) (hL : L.length < 1000)
    (fin : ∀ (s1 : Shared) (x : V) (H1 : Hp), Inv X pins σ H1 s1 → s.toks + 1 ≤ s1.toks → K x H1 → ∃ (z : Int) (c : Nat), x = .int z ∧ 0 ≤ z ∧ L[z.toNat]? = some c ∧ Q (.str ⟨#[c]⟩ s1.toks) { s1 with toks := s1.toks + 1 }) :
    wpAny (model X.prog X.w) X.A (eval (.Subscript (.Constant (.str S1) j1 c1) a pa) X.env) Q X.xe s := by
  refine Subscript_ (Calls.Constant_str ?_)
  refine wpAny_mono (PySem.wpAny_toks (ha.run pins { s with toks := s.toks + 1 } σ H K (I.tok _) h)) (fun u s1 q => ?_) fun _ _ z => z.2
  obtain ⟨hk, x, H1, I1, r1, q⟩ := q
  obtain ⟨z, c, rfl, h0, hc, q⟩ := fin s1 x H1 I1 hk q
  obtain ⟨t', rfl⟩ := r1
  have hlt : z.toNat < L.length := (List.getElem?_eq_some_iff.mp hc).1
  subst eS
  have h1 : z < ((⟨L.toArray⟩ : Str).length : Int) := by
    show z < ((L.toArray.size : Nat) : Int)
    rw [List.size_toArray]
    omega
  have e : seqIndex? z (⟨L.toArray⟩ : Str).length = some z.toNat := PySem.StrLaws.seqIndex_nonneg h0 h1
  exact tail_any (typeIs_str s1 _ _) slot_str_getitem.lookup (getItem_str (c := c) (by
    have e1 : decide (z < -(2 ^ 63 : Int)) = false := decide_eq_false (by omega)
    have e2 : decide (z ≥ 2 ^ 63) = false := decide_eq_false (by omega)
    rw [e1, e2] <;> rfl) (by rw [e]; show L.toArray[z.toNat]? = _; simpa using hc) q) (hi _ _)
theorem dss_strike (eS1 : S1 = ⟨L.toArray⟩) (eS2 : S2 = ⟨L.toArray⟩) (eE : em = ⟨#[]⟩) (hL : L.length < 1000) (hc : X.calm = true) (hN : X.N.Nodup) (hi : X.N[i]? = some n) (hj : X.N[j]? = some k) (hl : X.N[l]? = some y) (hij : i ≠ j)
    (hx : X.env.scope.names.lookup n = some .local) (hy : X.env.scope.names.lookup k = some .local) (hz : X.env.scope.names.lookup y = some .local) (ia : PlainIxT a) (id' : PlainIxT d) (ha : DK X w a fa) (hb : DE X w b fb) (hd : DK X w d fd) (hr : DSs X w rest g)
    (hw : swappedStores [.Tuple [.Name n px, .Name k py] kt pt] (.Tuple [.Subscript (.Constant (.str S1) j1 c1) a pa, b] k2 pt2) X.env = pure (some [n, k]))
    (hs : swapsWithSole [.Tuple [.Name n px, .Name k py] kt pt] (.Tuple [.Subscript (.Constant (.str S1) j1 c1) a pa, b] k2 pt2) pos1.line X.env = pure false := by rfl)
    (h1 : starEach [.Subscript (.Constant (.str S1) j1 c1) a pa, b] X.env = (false, eval (.Subscript (.Constant (.str S1) j1 c1) a pa) X.env) :: starEach [b] X.env := by rfl) (h2 : starEach [b] X.env = [(false, eval b X.env)] := by rfl)
    (hst : starEach [.Name n q, .Constant (.str em) j3 c3] X.env = [(false, eval (.Name n q) X.env), (false, eval (.Constant (.str em) j3 c3) X.env)] := by rfl)
    (hbase : attributeBase (.Constant (.str S2) j2 c2) "replace" X.env (eval (.Constant (.str S2) j2 c2) X.env) = eval (.Constant (.str S2) j2 c2) X.env := by rfl) (hline : (apos.endLine == cpos.line) = true := by rfl)
    (hsw : swapsWith (.Subscript (.Call (.Attribute (.Constant (.str S2) j2 c2) "replace" apos) [.Name n q, .Constant (.str em) j3 c3] [] cpos) d pd) (some (.Name y pz)) pos2.line X.env = pure false := by rfl)
    (hdd : (n == ("__debug__" : Str)) = false := by decide) :
    DSs X w (.Assign [.Tuple [.Name n px, .Name k py] kt pt] (.Tuple [.Subscript (.Constant (.str S1) j1 c1) a pa, b] k2 pt2) pos1 ::
      .Assign [.Name y pz] (.Subscript (.Call (.Attribute (.Constant (.str S2) j2 c2) "replace" apos) [.Name n q, .Constant (.str em) j3 c3] [] cpos) d pd) pos2 :: rest) (sStrike L i j l fa fb fd g) := by
  refine ⟨fun pins s σ H E I ⟨x0, r, m, R, qq⟩ => ?_⟩
  refine wpAny_execs_cons ?_
  rw [exec_Assign_arm]
  refine wpAny_bind (wpAny_standAt ?_)
  rw [hs]
  refine wpAny_bind (wpAny_pure ?_)
  rw [if_neg (by decide)]
  refine wpAny_bind (Tuple_ ?_)
  rw [h1, h2]
  refine Calls.spliced_cons ?_
  -- what is to be done behind a, b, d
  obtain ⟨k3, hk3⟩ : ∃ k3 : Env → Nat → D → Sto → Fl, k3 = fun r' c z m => match z with
      | .int k2 => if 0 ≤ k2 then match (L.filter (· != c))[k2.toNat]? with
        | some c2 => g (r'.set l (some (.val (.str [c2])))) m
        | none => .bad else .bad
      | _ => .bad := ⟨_, rfl⟩
  obtain ⟨k1, hk1⟩ : ∃ k1 : D → Sto → Fl, k1 = fun x m => match x with
    | .int z => if 0 ≤ z then match L[z.toNat]? with
      | some c => bindS r (fb r m) fun y m => bindS ((r.set i (some (.val (.str [c])))).set j (some (.val y))) (fd ((r.set i (some (.val (.str [c])))).set j (some (.val y))) m) fun z m => k3 ((r.set i (some (.val (.str [c])))).set j (some (.val y))) c z m
      | none => .bad else .bad
    | _ => .bad := ⟨_, rfl⟩
  have qq : FinS w x0 H E (bindS r (fa r m) k1) := by
    rw [hk1, hk3]
    exact qq
  refine raw_item eS1 ia ha I (K := fun v H1 => ∃ dx m1 y1, Rel y1 r m1 σ H1 ∧ Pk y1 H1 dx v ∧ FinS w y1 H1 E (k1 dx m1)) (rd_bindS R qq fun dx m1 v y1 H1 R1 p1 st1 q1 => ⟨dx, m1, y1, R1, p1, q1⟩) hL fun s1 v H1 I1 tk1 ⟨dx, m1, y1, R1, p1, q1⟩ => ?_
  cases dx with
  | int z =>
    have ev := p1.int
    subst ev
    rw [hk1] at q1
    have q1 : FinS w y1 H1 E (if 0 ≤ z then match L[z.toNat]? with
      | some c => bindS r (fb r m1) fun y m => bindS ((r.set i (some (.val (.str [c])))).set j (some (.val y))) (fd ((r.set i (some (.val (.str [c])))).set j (some (.val y))) m) fun z m => k3 ((r.set i (some (.val (.str [c])))).set j (some (.val y))) c z m
      | none => .bad else .bad) := q1
    obtain ⟨h0, q1⟩ := FinS.ite q1
    cases ec : L[z.toNat]? with
    | none => rw [ec] at q1; exact q1.elim
    | some c =>
      rw [ec] at q1
      refine ⟨z, c, rfl, h0, ec, ?_⟩
      -- the second
      have I1' : Inv X pins σ H1 { s1 with toks := s1.toks + 1 } := I1.tok _
      have hb' := rd_bindS R1 q1 fun dy m2 v2 y2 H2 R2 p2 st2 q2 => (⟨dy, m2, y2, R2, p2, q2⟩ : ∃ dy m2 y2, Rel y2 r m2 σ H2 ∧ Rep y2.F y2.io dy v2 ∧ FinS w y2 H2 E (bindS ((r.set i (some (.val (.str [c])))).set j (some (.val dy))) (fd ((r.set i (some (.val (.str [c])))).set j (some (.val dy))) m2) fun z m => k3 ((r.set i (some (.val (.str [c])))).set j (some (.val dy))) c z m))
      refine Calls.spliced_cons (wpAny_mono (PySem.wpAny_toks (hb.run pins { s1 with toks := s1.toks + 1 } σ H1 _ I1' hb')) (fun u2 s2 q => ?_) fun _ _ z => z.2)
      obtain ⟨tk2, v2, H2, I2, rv2, dy, m2, y2, R2, p2, q2⟩ := q
      have tk2 : s1.toks + 1 ≤ s2.toks := tk2
      refine Calls.spliced_nil ?_
      refine wpAny_newObj_type ?_ (by show 2 ≤ sizeLine; decide)
      have I3 : Inv X pins σ H2 { s2 with heap := s2.heap.push { cls := .type "tuple", data := .seq [.str ⟨#[c]⟩ s1.toks, u2].toArray } } := I2.kept (t' := s2.toks) fun b o e => Heap.get?_push_of_some _ e
      rw [hw]
      refine wpAny_bind (wpAny_pure ?_)
      show wpAny (model X.prog X.w) X.A (do rule "assign.swapped-stores"; let items ← unpackItems (.ref s2.heap.objs.size) 2 none; assignInOrder [fun v => bindName X.env k v, fun v => bindName X.env n v] items.reverse; pure Flow.next) _ _ _
      refine wpAny_bind (wpAny_rule (wpAny_bind (unpackItems_tuple (items := #[.str ⟨#[c]⟩ s1.toks, u2]) (I.ok.hd hc) (IsTup.new s2.heap _) fun h' hx' => ?_)))
      have I4 := I3.kept (h' := h') (t' := s2.toks) fun b o e => hx' b o (Nat.ne_of_lt (Heap.lt_size e)) e
      show wpAny _ _ (assignInOrder [fun v => bindName X.env k v, fun v => bindName X.env n v] [u2, .str ⟨#[c]⟩ s1.toks] >>= fun _ => pure Flow.next) _ _ _
      refine wpAny_bind (assignInOrder_cons (wpAny_bindName ?_))
      refine wpAny_mono (PySem.wpAny_toks (store_ok (Q := fun _ s5 => Inv X pins (σ.set j (some v2)) H2 s5) I4 hN hj (.inl hy) rv2 (fun s5 I5 => I5) (.inr hy))) (fun _ s5 q => ?_) fun _ _ z => z.2
      obtain ⟨tk5, I5⟩ := q
      have tk5 : s2.toks ≤ s5.toks := tk5
      obtain ⟨mm, hmm, hlm⟩ := id I5.loc
      have hcls : (X.env.scope.kind == .class || (X.env.scope.kind == .module && X.env.locals != X.env.globals)) = false := by rw [I5.ok.kind]; rfl
      refine assignInOrder_cons (wpAny_bindName (wpAny_storeName_local hx hmm (fun h6 hn6 sb6 => ?_) hcls))
      have I6 : Inv X pins ((σ.set j (some v2)).set i (some (.str ⟨#[c]⟩))) H2 { s5 with heap := h6, toks := s5.toks + 1 } := stored I5 hN hi hx ⟨s1.toks, rfl⟩ hlm hmm hn6 sb6
      rw [List.set_comm _ _ (Ne.symm hij)] at I6
      refine assignInOrder_nil (wpAny_pure ?_)
      show wpAny _ _ (execs (_ :: rest) X.env) _ _ _
      -- the third
      obtain ⟨y3, R3, e1, e2, e3, e4⟩ := R2.putV (d := .str [c]) (v := .str ⟨#[c]⟩) i (.str [c])
      obtain ⟨y4, R4, f1, f2, f3, f4⟩ := R3.putV (d := dy) (v := v2) j (by rw [e1, e2]; exact p2)
      have st4 : StS y2 H2 y4 H2 := (StS.same e1 e2 e3 fun b hb => .inl (e4 b hb)).trans (.same f1 f2 f3 fun b hb => .inl (f4 b hb))
      have q4 := FinS.shift st4 q2
      refine wpAny_execs_cons (wpAny_Assign_Name (Subscript_ ?_) hsw)
      refine PySem.Call_method2 hbase hst hline (Calls.Constant_str ?_)
      refine ⟨"str", _, PySem.F.plainAttrs_str, PySem.F.slot_str_replace, PySem.F.type_str_replace, typeIs_str _ _ _, (fun _ e => nomatch e), Calls.callWith_builtin rfl (Calls.evalArgs_plain (Calls.spliced_cons ?_))⟩
      refine wpAny_Name (wpAny_loadName_local I6.ok.kind hx hn6 (if_pos rfl) ?_) hdd
      refine Calls.spliced_cons (Calls.Constant_str (Calls.spliced_nil ?_))
      subst eS2 eE
      refine PySem.SC.replace (by show s1.toks ≠ 0; omega) (by show s5.toks + 1 + 1 ≠ 0; omega) (by show s1.toks ≠ s5.toks + 1 + 1; omega) (by simp) (by simp [Str.length]; omega) fun t' tk' => ?_
      rw [strike_is]
      have I7 : Inv X pins ((σ.set i (some (.str ⟨#[c]⟩))).set j (some v2)) H2 { s5 with heap := h6, toks := tk' } := I6.tok tk'
      have hd' := rd_bindS R4 q4 fun dz m3 v3 y5 H3 R5 p5 st5 q5 => (⟨dz, m3, y5, R5, p5, q5⟩ : ∃ dz m3 y5, Rel y5 ((r.set i (some (.val (.str [c])))).set j (some (.val dy))) m3 ((σ.set i (some (.str ⟨#[c]⟩))).set j (some v2)) H3 ∧ Pk y5 H3 dz v3 ∧ FinS w y5 H3 E (k3 ((r.set i (some (.val (.str [c])))).set j (some (.val dy))) c dz m3))
      refine thn (hd.run pins _ _ H2 _ I7 hd') fun u3 s8 ⟨v3, H3, I8, rv3, dz, m3, y5, R5, p5, q5⟩ => ?_
      cases dz with
      | int z2 =>
        have ev := p5.int
        subst ev
        obtain ⟨t3, rfl⟩ := rv3
        rw [hk3] at q5
        have q5 : FinS w y5 H3 E (if 0 ≤ z2 then match (L.filter (· != c))[z2.toNat]? with
          | some c2 => g (((r.set i (some (.val (.str [c])))).set j (some (.val dy))).set l (some (.val (.str [c2])))) m3
          | none => .bad else .bad) := q5
        obtain ⟨h02, q5⟩ := FinS.ite q5
        cases ec2 : (L.filter (· != c))[z2.toNat]? with
        | none => rw [ec2] at q5; exact q5.elim
        | some c4 =>
          rw [ec2] at q5
          have hlt : z2.toNat < (L.filter (· != c)).length := (List.getElem?_eq_some_iff.mp ec2).1
          have hle : (L.filter (· != c)).length ≤ L.length := List.length_filter_le ..
          have h5 : z2 < ((⟨(L.filter (· != c)).toArray⟩ : Str).length : Int) := by
            show z2 < (((L.filter (· != c)).toArray.size : Nat) : Int)
            rw [List.size_toArray]
            omega
          have e : seqIndex? z2 (⟨(L.filter (· != c)).toArray⟩ : Str).length = some z2.toNat := PySem.StrLaws.seqIndex_nonneg h02 h5
          refine tail_any (typeIs_str s8 _ _) slot_str_getitem.lookup (getItem_str (c := c4) (by
            have e1 : decide (z2 < -(2 ^ 63 : Int)) = false := decide_eq_false (by omega)
            have e2 : decide (z2 ≥ 2 ^ 63) = false := decide_eq_false (by omega)
            rw [e1, e2] <;> rfl) (by rw [e]; show (L.filter (· != c)).toArray[z2.toNat]? = _; simpa using ec2) ?_) (id' _ _)
          refine store_ok (v := V.str ⟨#[c4]⟩) (I8.tok (s8.toks + 1)) hN hl (.inl hz) ⟨s8.toks, rfl⟩ (fun s9 I9 => ?_) (.inr hz)
          obtain ⟨y6, R6, g1, g2, g3, g4⟩ := R5.putV (d := .str [c4]) (v := .str ⟨#[c4]⟩) l (.str [c4])
          exact hr.run pins s9 _ H3 E I9 ⟨y6, _, m3, R6, FinS.shift (.same g1 g2 g3 fun b hb => .inl (g4 b hb)) q5⟩
      | _ => rw [hk3] at q5; exact q5.elim
  | _ => rw [hk1] at q1; exact q1.elim
end
end Dl
/-! The data layer: methods of texts, str(..), isinstance. -/
namespace Dl
open PySem PySem.Spec PyProof.Rows L2 TL

/-- the type by which a method is found -/
def kD : D → String
  | .str _ => "str"
  | .int _ => "int"
  | .lst _ => "list"
  | _ => ""
theorem tyV_of {K : PySem.W.Frag} {T : String} {x : Sx} {e : Env} {m : Sto} {s : L2.St} {H : Hp} {d : D} {v : V} (R : Rel x e m s H) (p : Pk x H d v) (h : kD d = T) (hT : T ≠ "" := by decide) : tyV K T v H := by
  subst h
  cases d with
  | str z =>
    have e := p.str
    subst e
    exact rfl
  | int z =>
    have e := p.int
    subst e
    exact rfl
  | lst l =>
    obtain ⟨a, vs, rfl, ha, q⟩ := p.lst R
    exact .inl ⟨rfl, vs, SqL.of ha⟩
  | _ => exact absurd rfl hT
/-- o.name(e, ..) of a built-in type -/
def sMeth (T : String) (f : D → List D → Sto → R D) (fo : SE) (g : SL) : SE := fun r m => bindR (fo r m) fun d m => if kD d = T then bindR (g r m) fun ds m => f d ds m else .bad
def CmM (w : Wi) (f : D → List D → Sto → R D) (r : V → List V → Hp → VK → Prop) : Prop := ∀ (x : Sx) (e : Env) (m : Sto) (s : L2.St) (H : Hp) (Q : VK) (d : D) (v : V) (ds : List D) (vs : List V), Rel x e m s H → Pk x H d v → Pks x H ds vs → Fin PV w x e s H Q (f d ds m) → r v vs H Q
section
variable {X : Cx} {w : Wi} {a o e : Expr} {es : List Expr} {pos p apos cpos : Pos} {fa fo : SE} {g : SL} {T id : String} {r : V → List V → Hp → VK → Prop} {f : D → List D → Sto → R D} {name : Str}
theorem rd_meth (hT : T ≠ "") (h : CmM w f r) (s : L2.St) (H : Hp) (Q : VK) (q : rd PV w (sMeth T f fo g) s H Q) : tBM X.K T r (rd Pk w fo) (rd (fun x H ds vs => Pks x H ds vs) w g) s H Q := by
  obtain ⟨x, e, m, R, q⟩ := q
  refine rd_bind R q fun d m1 v y H1 R1 p1 st1 q1 => ?_
  obtain ⟨hk, q1⟩ := Fin.ite q1
  refine ⟨tyV_of R1 p1 hk hT, rd_bind R1 q1 fun ds m2 vs z H2 R2 p2 st2 q2 => ?_⟩
  exact h z e m2 s H2 Q d v ds vs R2 (p1.stay R1 st2) p2 q2
theorem de_bm (pa : PlainAttrs T) (slot : Slot T name id) (hty : typeOf (.builtin id) = pure (.type "method_descriptor")) (hm : MtR X id r) (h : CmM w f r) (ho : DK X w o fo) (ha : DAk X w (e :: es) g) (hT : T ≠ "" := by decide)
    (hbase : attributeBase o name X.env (eval o X.env) = eval o X.env := by rfl)
    (hfew : ((backTo cpos (starEach (e :: es) X.env)).all (fun x => !x.1) && (backToKw cpos (keywordEach [] X.env)).all (fun x => x.1.isSome)
      && decide ((e :: es).length + ([] : List Keyword).length + (if ([] : List Keyword).isEmpty then 0 else 1) < 30)) = true := by rfl)
    (hline : (apos.endLine == cpos.line) = true := by rfl) (hs : starEach (e :: es) X.env = (false, eval e X.env) :: starEach es X.env := by rfl) (hplain : (backTo cpos (starEach es X.env)).any (·.1) = false := by rfl) :
    DE X w (.Call (.Attribute o name apos) (e :: es) [] cpos) (sMeth T f fo g) :=
  PE.imp (pe_bm pa slot hty hm ho ha hbase hfew hline hs hplain) fun s H Q q => rd_meth hT h s H Q q
/-- texts of values -/
def strsD : List D → Option (List (List Nat))
  | [] => some []
  | .str z :: l => (strsD l).map (z :: ·)
  | _ => none
@[simp] theorem strsD_map (l : List (List Nat)) : strsD (l.map D.str) = some l := by
  induction l with
  | nil => rfl
  | cons i l ih =>
    show (strsD (l.map D.str)).map (i :: ·) = _
    rw [ih]
    rfl
def mkS (z : List Nat) : Str := ⟨z.toArray⟩
theorem strs_reps {F : Hp} {io : List Addr} : ∀ {l : List D} {vs : List V} {ns : List (List Nat)}, Reps F io l vs → strsD l = some ns → vs = (ns.map mkS).map V.str
  | [], _, _, .nil, e => by
    cases e
    rfl
  | d :: l, _, ns, .cons r t, e => by
    cases d with
    | str i =>
      cases r
      cases k : strsD l with
      | none =>
        have e : (strsD l).map (i :: ·) = some ns := e
        rw [k] at e
        cases e
      | some ms =>
        have e : (strsD l).map (i :: ·) = some ns := e
        rw [k] at e
        cases e
        rw [strs_reps t k]
        rfl
    | _ => cases e
def joinD (a : List Nat) (ps : List (List Nat)) (m : Sto) : R D := if (ps.map List.length).sum + ps.length * a.length ≤ LIM then .ok (.str (joinL a ps)) m else .bad
def fJoin : D → List D → Sto → R D
  | .str a, [.lst l], m => match strsD l with
    | some ps => joinD a ps m
    | none => .bad
  | .str a, [.tup l], m => match strsD l with
    | some ps => joinD a ps m
    | none => .bad
  | _, _, _ => .bad
theorem join_mk (a : List Nat) (ps : List (List Nat)) : Txt.join (mkS a) (ps.map mkS) = mkS (joinL a ps) := by
  refine ext_tl ?_
  rw [join_eq, tl_join]
  have e : (ps.map mkS).map tl = ps := by
    rw [List.map_map]
    exact List.map_id'' (fun z => rfl) ps
  rw [e]
  rfl
theorem sum_mk (ps : List (List Nat)) : ((ps.map mkS).map (·.length)).sum = (ps.map List.length).sum := by
  rw [List.map_map]
  exact congrArg List.sum (List.map_congr_left fun z _ => str_len z)
theorem cm_join : CmM w fJoin (fun x xs H Q => ∃ a p, ∃ ys : List Str, x = .str a ∧ xs = [.ref p] ∧ (SqL X.K H p (ys.map V.str) ∨ SqT X.K H p (ys.map V.str)) ∧
    (ys.map (·.length)).sum + ys.length * a.length ≤ 16777216 ∧ Q (.str (Txt.join a ys)) H) := by
  intro x e m s H Q d v ds vs R pd ps h
  unfold fJoin at h
  split at h
  · rename_i a l
    have ed := pd.str
    subst ed
    obtain ⟨v, rfl, pa⟩ := ps.one
    obtain ⟨p, us, rfl, hp, q⟩ := pa.lst R
    cases k : strsD l with
    | none => rw [k] at h; exact h.elim
    | some zs =>
      rw [k] at h
      obtain ⟨hz, h⟩ := Fin.ite h
      have e := strs_reps q k
      subst e
      refine ⟨mkS a, p, zs.map mkS, rfl, rfl, .inl (SqL.of hp), ?_, ?_⟩
      · rw [sum_mk, List.length_map]
        show _ + _ * (mkS a).length ≤ LIM
        rw [show (mkS a).length = a.length from str_len a]
        exact hz
      · rw [join_mk]
        exact Fin.here R h (.str _)
  · rename_i a l
    have ed := pd.str
    subst ed
    obtain ⟨v, rfl, pa⟩ := ps.one
    obtain ⟨p, us, rfl, _, hp, q⟩ := pa.tup R
    cases k : strsD l with
    | none => rw [k] at h; exact h.elim
    | some zs =>
      rw [k] at h
      obtain ⟨hz, h⟩ := Fin.ite h
      have e := strs_reps q k
      subst e
      refine ⟨mkS a, p, zs.map mkS, rfl, rfl, .inr (SqT.of hp), ?_, ?_⟩
      · rw [sum_mk, List.length_map]
        show _ + _ * (mkS a).length ≤ LIM
        rw [show (mkS a).length = a.length from str_len a]
        exact hz
      · rw [join_mk]
        exact Fin.here R h (.str _)
  · exact h.elim
theorem de_join (ho : DK X w o fo) (ha : DK X w a fa) (hs : starEach [a] X.env = [(false, eval a X.env)] := by rfl) (hbase : attributeBase o "join" X.env (eval o X.env) = eval o X.env := by rfl)
    (hfew : ((backTo cpos (starEach [a] X.env)).all (fun x => !x.1) && (backToKw cpos (keywordEach [] X.env)).all (fun x => x.1.isSome)
      && decide ([a].length + ([] : List Keyword).length + (if ([] : List Keyword).isEmpty then 0 else 1) < 30)) = true := by rfl)
    (hline : (apos.endLine == cpos.line) = true := by rfl) (hpl : (backTo cpos (starEach [] X.env)).any (·.1) = false := by rfl) : DE X w (.Call (.Attribute o "join" apos) [a] [] cpos) (sMeth "str" fJoin fo (aCons fa aNil)) :=
  de_bm PySem.F.plainAttrs_str PySem.F.slot_str_join PySem.F.type_str_join mt_join cm_join ho (dk_cons ha dk_nil hs) (by decide) hbase hfew hline hs hpl
/-- a text cut at a sign -/
def fSplit : D → List D → Sto → R D
  | .str a, [.str [c]], m => if a.length + 2 ≤ LIM ∧ c < 256 then .ok (.lst ((spl [c] 0 [] a).map D.str)) m else .bad
  | _, _, _ => .bad
theorem split_mk (a : List Nat) (c : Nat) (hc : c < 256) : Txt.split (mkS a) (mkS [c]) = (spl [c] 0 [] a).map mkS := by
  refine map_tl_inj ?_
  rw [split_spl (mkS a) (mkS [c]) (by simp [mkS, tl]) (kind_ok (by simp [mkS, hc])), List.map_map]
  show spl [c] 0 [] a = _
  exact (List.map_id'' (fun z => rfl) _).symm
theorem reps_strs {F : Hp} {io : List Addr} : ∀ l : List (List Nat), Reps F io (l.map D.str) ((l.map mkS).map V.str)
  | [] => .nil
  | z :: l => .cons (.str z) (reps_strs l)
theorem cm_split : CmM w fSplit (fun x xs H Q => ∃ a b, x = .str a ∧ xs = [.str b] ∧ (b.length == 0) = false ∧ a.length + 2 ≤ sizeLine ∧ rNewStrs (Txt.split a b) H Q) := by
  intro x e m s H Q d v ds vs R pd ps h
  unfold fSplit at h
  split at h
  · rename_i a c
    have ed := pd.str
    subst ed
    obtain ⟨v, rfl, pa⟩ := ps.one
    have ea := pa.str
    subst ea
    obtain ⟨⟨hz, hc⟩, h⟩ := Fin.ite h
    refine ⟨mkS a, mkS [c], rfl, rfl, by simp [mkS, Str.length], ?_, ?_⟩
    · rw [show (mkS a).length = a.length from str_len a, ← lim_eq]
      exact hz
    · unfold rNewStrs
      rw [split_mk a c hc]
      exact Fin.list R h (reps_strs _)
  · exact h.elim
theorem de_split (ho : DK X w o fo) (ha : DK X w a fa) (hs : starEach [a] X.env = [(false, eval a X.env)] := by rfl) (hbase : attributeBase o "split" X.env (eval o X.env) = eval o X.env := by rfl)
    (hfew : ((backTo cpos (starEach [a] X.env)).all (fun x => !x.1) && (backToKw cpos (keywordEach [] X.env)).all (fun x => x.1.isSome)
      && decide ([a].length + ([] : List Keyword).length + (if ([] : List Keyword).isEmpty then 0 else 1) < 30)) = true := by rfl)
    (hline : (apos.endLine == cpos.line) = true := by rfl) (hpl : (backTo cpos (starEach [] X.env)).any (·.1) = false := by rfl) : DE X w (.Call (.Attribute o "split" apos) [a] [] cpos) (sMeth "str" fSplit fo (aCons fa aNil)) :=
  de_bm PySem.F.plainAttrs_str PySem.F.slot_str_split PySem.F.type_str_split mt_split cm_split ho (dk_cons ha dk_nil hs) (by decide) hbase hfew hline hs hpl

/-! ### str(..) -/
def decD (i : Int) : List Nat := (toString i : String).toList.map Char.toNat
def fText : List D → Sto → R D
  | [.int i], m => if i.natAbs.log2 < 1920 then .ok (.str (decD i)) m else .bad
  | [.str z], m => .ok (.str z) m
  | _, _ => .bad
theorem ca_text : CaD w fText (fun xs H Q => (∃ i, xs = [.int i] ∧ i.natAbs.log2 < 1920 ∧ Q (.str (toString i)) H) ∨ ∃ a, xs = [.str a] ∧ Q (.str a) H) := by
  intro x e m s H Q ds vs R ps h
  unfold fText at h
  split at h
  · rename_i i
    obtain ⟨v, rfl, pa⟩ := ps.one
    have ea := pa.int
    subst ea
    obtain ⟨hz, h⟩ := Fin.ite h
    refine .inl ⟨i, rfl, hz, ?_⟩
    have e : (Str.ofString (toString i) : Str) = mkS (decD i) := ext_tl (tl_ofString _)
    show Q (.str (Str.ofString (toString i))) H
    rw [e]
    exact Fin.here R h (.str _)
  · rename_i z
    obtain ⟨v, rfl, pa⟩ := ps.one
    have ea := pa.str
    subst ea
    exact .inr ⟨_, rfl, Fin.here R h (.str _)⟩
  · exact h.elim
theorem de_text (hg : Gl X "str") (hm : X.mg "str" = none) (ha : DK X w a fa) (hs : starEach [a] X.env = [(false, eval a X.env)] := by rfl) (hpl : (backTo pos (starEach [] X.env)).any (·.1) = false := by rfl) : DE X w (.Call (.Name "str" p) [a] [] pos) (sCall fText (aCons fa aNil)) :=
  de_callT (CallR.or call_str_int SkE.call_str_str) ca_text hg hm PyProof.Rows.boot_str (dk_cons ha dk_nil hs) (by decide) (by decide) hs hpl

/-! ### isinstance -/
/-- a built-in type's name -/
theorem de_ty {x : Str} {T : String} (hg : Gl X x) (hm : X.mg x = none) (hv : bootBuiltins x = some (.type T)) (hn : x ≠ "__name__" := by decide) (hd : (x == ("__debug__" : Str)) = false := by decide) : DE X w (.Name x pos) (sC (.cst (.ty T))) :=
  de_c (v := .ty T) (pe_bltn (v := .ty T) hg hm hv rfl hn hd) fun _ _ => .cst _
def tyD : D → Option String
  | .non => some "NoneType"
  | .bl _ => some "bool"
  | .int _ => some "int"
  | .str _ => some "str"
  | .tup _ => some "tuple"
  | .lst _ => some "list"
  | _ => none
def tyNs : List D → Option (List String)
  | [] => some []
  | .cst (.ty n) :: l => (tyNs l).map (n :: ·)
  | _ => none
def isiAny (a : String) : List String → Option Bool
  | [] => some false
  | b :: l => match L2.kitB a b with
    | some true => some true
    | some false => isiAny a l
    | none => none
def fIsi : List D → Sto → R D
  | [d, .cst (.ty n)], m => match tyD d with
    | some a => ofO ((L2.kitB a n).map D.bl) m
    | none => .bad
  | [d, .tup l], m => match tyD d, tyNs l with
    | some a, some ns => ofO ((isiAny a ns).map D.bl) m
    | _, _ => .bad
  | _, _ => .bad
theorem tyX_of {K : PySem.W.Frag} {x : Sx} {e : Env} {m : Sto} {s : L2.St} {H : Hp} {d : D} {v : V} {a : String} (R : Rel x e m s H) (p : Pk x H d v) (h : tyD d = some a) : TyX K H v (.type a) := by
  cases d with
  | non => cases h; rw [p.non]; exact .base .non
  | bl b => cases h; rw [p.bl]; exact .base (.bl _)
  | int b => cases h; rw [p.int]; exact .base (.int _)
  | str b => cases h; rw [p.str]; exact .base (.str _)
  | tup l => cases h; obtain ⟨a, vs, rfl, _, ha, _⟩ := p.tup R; exact .base (.tup ha)
  | lst l => cases h; obtain ⟨a, vs, rfl, ha, _⟩ := p.lst R; exact .base (.lst ha)
  | _ => cases h
theorem tyNs_of {F : Hp} {io : List Addr} : ∀ {l : List D} {vs : List V} {ns : List String}, Reps F io l vs → tyNs l = some ns → Paired ClsV vs (ns.map Value.type)
  | [], _, _, .nil, e => by cases e; exact .nil
  | d :: l, _, ns, .cons r t, e => by
    cases d with
    | cst v =>
      cases v with
      | ty n =>
        cases r
        cases k : tyNs l with
        | none =>
          have e : (tyNs l).map (n :: ·) = some ns := e
          rw [k] at e
          cases e
        | some ms =>
          have e : (tyNs l).map (n :: ·) = some ns := e
          rw [k] at e
          cases e
          exact .cons (.ty n) (tyNs_of t k)
      | _ => cases e
    | _ => cases e
theorem isiAny_of {K : PySem.W.Frag} {a : String} : ∀ {ns : List String} {b : Bool}, isiAny a ns = some b → PySem.W.kitAny K (.type a) (ns.map Value.type) = some b
  | [], b, e => by cases e; rfl
  | n :: ns, b, e => by
    unfold isiAny at e
    cases k : L2.kitB a n with
    | none => rw [k] at e; cases e
    | some c =>
      rw [k] at e
      cases c with
      | true => cases e; exact kitAny_cons (kit_ty k) (fun z => by cases z) fun _ => rfl
      | false => exact kitAny_cons (kit_ty k) (fun _ => isiAny_of e) fun z => by cases z
theorem ca_isi (K : PySem.W.Frag) : CaD w fIsi (fun xs H Q => rIsi K xs H Q ∨ rIsiT K xs H Q) := by
  intro x e m s H Q ds vs R ps h
  unfold fIsi at h
  split at h
  · rename_i d n
    obtain ⟨v, v', rfl, pa, pb⟩ := ps.two
    cases ht : tyD d with
    | none => rw [ht] at h; exact h.elim
    | some a =>
      rw [ht] at h
      have h : Fin PV w x e s H Q (ofO ((L2.kitB a n).map D.bl) m) := h
      cases hk : L2.kitB a n with
      | none => rw [hk] at h; exact h.elim
      | some b =>
        rw [hk] at h
        rcases pb with q | ⟨_, _, _, e1, _⟩
        · cases q
          exact .inl ⟨v, .ty n, .type a, .type n, b, rfl, .ty n, tyX_of R pa ht, kit_ty hk, Fin.here R h (.bl _)⟩
        · cases e1
  · rename_i d l
    obtain ⟨v, v', rfl, pa, pb⟩ := ps.two
    cases ht : tyD d with
    | none => rw [ht] at h; exact h.elim
    | some a =>
      cases hn : tyNs l with
      | none => rw [ht, hn] at h; exact h.elim
      | some ns =>
        rw [ht, hn] at h
        have h : Fin PV w x e s H Q (ofO ((isiAny a ns).map D.bl) m) := h
        cases hk : isiAny a ns with
        | none => rw [hk] at h; exact h.elim
        | some b =>
          rw [hk] at h
          obtain ⟨tp, cs, rfl, _, hp, q⟩ := pb.tup R
          exact .inr ⟨v, tp, cs, .type a, ns.map Value.type, b, rfl, hp, tyNs_of q hn, tyX_of R pa ht, isiAny_of hk, Fin.here R h (.bl _)⟩
  · exact h.elim
theorem de_isi {b : Expr} {fb : SE} (hg : Gl X "isinstance") (hm : X.mg "isinstance" = none) (ha : DK X w a fa) (hb : DK X w b fb) (hs : starEach [a, b] X.env = (false, eval a X.env) :: starEach [b] X.env := by rfl) (hs' : starEach [b] X.env = [(false, eval b X.env)] := by rfl) (hpl : (backTo pos (starEach [b] X.env)).any (·.1) = false := by rfl) :
    DE X w (.Call (.Name "isinstance" p) [a, b] [] pos) (sCall fIsi (aCons fa (aCons fb aNil))) :=
  de_callB (CallR.or call_isi call_isiT) (ca_isi _) hg hm PyProof.Rows.boot_isinstance (dk_cons ha (dk_cons hb dk_nil hs') hs) (by decide) (by decide) hs hpl
end
end Dl
/-! The data layer: the law's own draws (an object of two lists, handed on). -/
namespace Dl
open PySem PySem.Spec PyProof.Rows L2 TL

def rAdd0 : R2 := rI0 fun i j => .int (i + j)
def rMul0 : R2 := rI CMul fun i j => .int (i * j)
def rMod0 : R2 := rI (fun _ j => 0 < j) fun i j => .int (i % j)
def rDiv0 : R2 := rI CDiv fun i j => .int (i / j)
def rPow0 : R2 := rI CPow fun i j => .int (i ^ j.toNat)
def rGe0 : R2 := rI0 fun i j => .bl (decide (j ≤ i))
def rListOf (K : PySem.W.Frag) : List V → Hp → VK → Prop := fun xs H Q => ∃ p ys, xs = [.ref p] ∧ (SqL K H p ys ∨ SqT K H p ys) ∧ ∀ l, H l = none → Q (.ref l) (upd H l (.lst ys))
def rLenOf (K : PySem.W.Frag) : List V → Hp → VK → Prop := fun xs H Q => ∃ x n, xs = [x] ∧ LenV K x H n ∧ Q (.int n) H
def rMax2 : List V → Hp → VK → Prop := fun xs H Q => ∃ i j, xs = [.int i, .int j] ∧ Q (.int (if j > i then j else i)) H
/-! ### the start -/
def mix1 (s c : Int) : Int := (s * 48271 + c % 2147483629 + 1) % 2147483647
def mixS (cs : List Int) (s : Int) : Int := cs.foldl mix1 s
def t_mix (K : PySem.W.Frag) : TS := tSeq (tAsg (tVar 1) (L2.gName 2)) (tSeq (tFor (iList K (tVar 0)) (L2.gName 3) (tAsg (tOp rMod0 (tOp rAdd0 (tOp rAdd0 (tOp rMul0 (tVar 2) (tC (.int 48271))) (tOp rMod0 (tVar 3) (tC (.int 2147483629)))) (tC (.int 1))) (tC (.int 2147483647))) (L2.gName 2)))
  (tRet (tLst (tCons (tVar 2) (tCons (tCB (rListOf K) (tCons (tVar 0) tNil)) (tCons (tC (.int 0)) tNil))))))
def spMix (K : PySem.W.Frag) : Sp := fun vs H Q _ => ∃ a cs seed, vs = [.ref a, .int seed] ∧ SqL K H a (cs.map V.int) ∧ ∀ b p, H b = none → H p = none → p ≠ b → Q (.ref p) (upd (upd H b (.lst (cs.map V.int))) p (.lst [.int (mixS cs seed), .ref b, .int 0]))
theorem mixS_more {cs : List Int} {i : Nat} {c seed : Int} (h : cs[i]? = some c) : mixS (cs.take (i + 1)) seed = mix1 (mixS (cs.take i) seed) c := by
  unfold mixS
  rw [List.take_add_one, h, List.foldl_append]
  rfl
theorem pure_mix {K : PySem.W.Frag} (N : List Str) (hN : N.length = 4) (vs : List V) (H : Hp) (Q : VK) (E : XK) (h : spMix K vs H Q E) : t_mix K { nx := fun _ H' => Q .non H', rt := Q } (L2.start N vs) H := by
  obtain ⟨a, cs, seed, rfl, hS, k⟩ := h
  have e : L2.start N [.ref a, .int seed] = [some (.ref a), some (.int seed), none, none] := by
    unfold L2.start
    rw [hN]
    rfl
  rw [e]
  refine ⟨_, rfl, _, rfl, a, rfl, ⟨_, hS⟩, for_list (K := K) (a := a) (xs := cs.map V.int) (fun i σ H' => ∃ v : Option V, σ = [some (.ref a), some (.int seed), some (.int (mixS (cs.take i) seed)), v] ∧ H' = H) ⟨none, rfl, rfl⟩ (fun i σ H' _ ⟨_, _, e⟩ => e ▸ hS) ?_ ?_⟩
  · rintro i y σ H' hi ⟨v, rfl, rfl⟩
    obtain ⟨z, hz, rfl⟩ : ∃ z, cs[i]? = some z ∧ y = V.int z := by
      rw [List.getElem?_map] at hi
      cases e : cs[i]? with
      | none => rw [e] at hi; cases hi
      | some z => rw [e] at hi; exact ⟨z, rfl, (Option.some.inj hi).symm⟩
    have step := mixS_more (seed := seed) hz
    refine ⟨_, rfl, _, _, rfl, rfl, .inr (by decide), _, rfl, _, _, rfl, rfl, (by show (0 : Int) < 2147483629; decide), _, _, rfl, rfl, _, _, rfl, rfl, _, _, rfl, rfl, (by show (0 : Int) < 2147483647; decide), ?_⟩
    refine ⟨some (.int z), ?_, rfl⟩
    rw [step]
    rfl
  · rintro σ H' ⟨v, rfl, rfl⟩
    rw [List.length_map, List.take_length]
    refine ⟨_, rfl, _, rfl, a, _, rfl, .inl hS, fun b hb => ⟨by show 3 ≤ sizeLine; decide, fun p hp => ?_⟩⟩
    have hne : p ≠ b := fun e => by rw [e, upd_same] at hp; cases hp
    exact k b p hb (by rw [upd_ne hne] at hp; exact hp) hne

/-! ### a draw -/
def nextD (s : Int) (cs : List Int) (p many : Int) : Int × MObj :=
  let c := (cs ++ [0]).getD (p % (max 1 cs.length : Nat)).toNat 0
  if 10 ^ 18 ≤ c then (c % many, .drw s (cs.set (p % cs.length).toNat (c / many)) p)
  else let s' := (s * 48271 + c * 69621 + 11) % 2147483647
    (s' / 7 % many, .drw s' cs (p + 1))
def fNext : Fd := fun ds m => match ds with
  | [.obj n, .int many] => match m[n]? with
    | some (.drw s cs p) => if 0 < many ∧ many < 1073741824 ∧ 0 ≤ p ∧ cs.length < LIM then .ok (.int (nextD s cs p many).1) (m.set n (nextD s cs p many).2) else .bad
    | _ => .bad
  | _ => .bad
section
variable {x : Sx} {m : Sto} {H H' : Hp} {n : Nat} {K : PySem.W.Frag}
theorem obj_end {s s' : Int} {cs cs' : List Int} {p p' : Int} {a : Addr} (R : Rel x [] m [] H) (hn : m[n]? = some (.drw s cs p)) (ha : x.io[n]? = some a) : ∃ b, a ≠ b ∧ H a = some (.lst [.int s, .ref b, .int p]) ∧ H b = some (.lst (cs.map V.int)) ∧
    ∀ H', (∀ c o, H c = some o → c ≠ a → c ≠ b → H' c = some o) → (∀ c, H' c = none → H c = none) → H' a = some (.lst [.int s', .ref b, .int p']) → H' b = some (.lst (cs'.map V.int)) → ∃ y, Rel y [] (m.set n (.drw s' cs' p')) [] H' ∧ StE x H y H' := by
  obtain ⟨a1, A0, A', e1, pm, ob, wr⟩ := R.sto.at hn
  rw [ha] at e1
  cases e1
  cases ob with
  | @drw _ b _ _ _ h1 h2 =>
    have ndA : (a :: b :: A').Nodup := (pm.nodup_iff).mp (List.nodup_append.mp R.nd).2.1
    have hab : a ≠ b := fun e => (List.nodup_cons.mp ndA).1 (by simp [e])
    have in2 : ∀ c, c ∈ x.A2 ↔ c = a ∨ c = b ∨ c ∈ A' := fun c => by rw [pm.mem_iff]; simp
    refine ⟨b, hab, h1, h2, fun H' keep there ha' hb' => ?_⟩
    have kA : Keep A' H H' := fun c hc o e => keep c o e (fun z => (List.nodup_cons.mp ndA).1 (by subst z; exact List.mem_cons_of_mem _ hc)) fun z => (List.nodup_cons.mp (List.nodup_cons.mp ndA).2).1 (by subst z; exact hc)
    obtain ⟨A2, pm2, st2⟩ := wr (F' := x.F) (io' := x.io) (H' := H') (.refl _) (.refl _) kA (ObjR.drw (m := s') (p := p') (cs := cs') ha' hb')
    have in3 : ∀ c, c ∈ A2 ↔ c ∈ x.A2 := fun c => by rw [pm2.mem_iff, pm.mem_iff]
    have eA1 : x.A1 = [] := by
      have := R.vars
      cases h : x.A1 with
      | nil => rfl
      | cons a l => rw [h] at this; cases this
    have ne : ∀ c o, x.F c = some o → c ≠ a ∧ c ≠ b := fun c o e => by
      constructor
      · intro z
        rw [z, R.nF a (List.mem_append_right _ ((in2 a).mpr (.inl rfl)))] at e
        cases e
      · intro z
        rw [z, R.nF b (List.mem_append_right _ ((in2 b).mpr (.inr (.inl rfl))))] at e
        cases e
    refine ⟨{ x with A2 := A2 }, ⟨fun c o e => keep c o (R.sub c o e) (ne c o e).1 (ne c o e).2, ?_, st2, ?_, fun c hc => ?_⟩, ⟨⟨.refl _, .refl _, fun c o e hc => keep c o e (fun z => hc ((in2 c).mpr (.inl z))) fun z => hc ((in2 c).mpr (.inr (.inl z))), there, fun c h1 h2 => absurd h1 h2, fun c hc => .inl ((in3 c).mp hc)⟩, rfl⟩⟩
    · show Vars _ _ _ _ _ x.A1
      rw [eA1]
      exact .nil
    · show (x.A1 ++ A2).Nodup
      rw [eA1, List.nil_append]
      exact (pm2.nodup_iff).mpr ndA
    · refine R.nF c ?_
      rcases List.mem_append.mp hc with q | q
      · exact List.mem_append_left _ q
      · exact List.mem_append_right _ ((in3 c).mp q)
def t_next (K : PySem.W.Frag) : TS :=
  tSeq (tAsg (tOp (rIxL K) (tOp rCat (tOp (rIxL K) (tVar 0) (tC (.int 1))) (tLst (tCons (tC (.int 0)) tNil))) (tOp rMod0 (tOp (rIxL K) (tVar 0) (tC (.int 2))) (tCB rMax2 (tCons (tC (.int 1)) (tCons (tCB (rLenOf K) (tCons (tOp (rIxL K) (tVar 0) (tC (.int 1))) tNil)) tNil))))) (L2.gName 2))
  (tSeq (tIfS (tTest (tOp rGe0 (tVar 2) (tOp rPow0 (tC (.int 10)) (tC (.int 18)))))
    (tSeq (tAsg (tOp rDiv0 (tVar 2) (tVar 1)) (gSub (tOp (rIxL K) (tVar 0) (tC (.int 1))) (tOp rMod0 (tOp (rIxL K) (tVar 0) (tC (.int 2))) (tCB (rLenOf K) (tCons (tOp (rIxL K) (tVar 0) (tC (.int 1))) tNil))) rSetL)) (tRet (tOp rMod0 (tVar 2) (tVar 1)))) tNext)
  (tSeq (tAsg (tOp rMod0 (tOp rAdd0 (tOp rAdd0 (tOp rMul0 (tOp (rIxL K) (tVar 0) (tC (.int 0))) (tC (.int 48271))) (tOp rMul0 (tVar 2) (tC (.int 69621)))) (tC (.int 11))) (tC (.int 2147483647))) (gSub (tVar 0) (tC (.int 0)) rSetL))
  (tSeq (tAsg (tOp rAdd0 (tOp (rIxL K) (tVar 0) (tC (.int 2))) (tC (.int 1))) (gSub (tVar 0) (tC (.int 2)) rSetL))
  (tRet (tOp rMod0 (tOp rDiv0 (tOp (rIxL K) (tVar 0) (tC (.int 0))) (tC (.int 7))) (tVar 1))))))
theorem upd_there {H2 : Hp} {b : Addr} {u : HO} (kt : ∀ c, H2 c = none → H c = none) : ∀ d, upd H2 b u d = none → H d = none := fun d e => by
  by_cases z : d = b
  · rw [z, upd_same] at e; cases e
  · rw [upd_ne z] at e; exact kt d e
theorem ixN_mod {p : Int} {n : Nat} (h : 0 < n) : ixN n (p % (n : Int)) = some (p % (n : Int)).toNat := by
  have h1 : 0 ≤ p % (n : Int) := Int.emod_nonneg _ (by omega)
  have h2 : p % (n : Int) < n := Int.emod_lt_of_pos _ (by omega)
  unfold ixN
  rw [if_pos h1, if_pos h2]
theorem pure_next {t : Tf} (N : List Str) (hN : N.length = 3) (vs : List V) (H : Hp) (Q : VK) (E : XK) (h : spF t 2 fNext vs H Q E) : t_next K { nx := fun _ H' => Q .non H', rt := Q } (L2.start N vs) H := by
  obtain ⟨hl, x, m, ds, R, rp, q⟩ := h
  unfold fNext at q
  split at q
  · rename_i n many
    split at q
    · rename_i s cs p hn
      obtain ⟨⟨hm0, hm1, hp0, hcs⟩, q⟩ := Fin.ite q
      cases rp with
      | @cons _ v1 _ _ r1 rp =>
        cases rp with
        | @cons _ v2 _ _ r2 rp =>
          cases rp
          cases r2
          cases r1 with
          | @obj _ a ha =>
            have e : L2.start N [.ref a, .int many] = [some (.ref a), some (.int many), none] := by
              unfold L2.start
              rw [hN]
              rfl
            rw [e]
            have hcz : (cs.map V.int).length + 1 ≤ sizeLine := by rw [List.length_map, ← lim_eq]; omega
            obtain ⟨b, hab, h1, h2, fin⟩ := obj_end (s' := match (nextD s cs p many).2 with | .drw s' _ _ => s' | _ => 0) (cs' := match (nextD s cs p many).2 with | .drw _ c _ => c | _ => []) (p' := match (nextD s cs p many).2 with | .drw _ _ p' => p' | _ => 0) R hn ha
            obtain ⟨c, hc⟩ : ∃ c, c = (cs ++ [0]).getD (p % (max 1 cs.length : Nat)).toNat 0 := ⟨_, rfl⟩
            have hlt : (p % (max 1 cs.length : Nat)).toNat < (cs ++ [0]).length := by
              have z1 : 0 ≤ p % ((max 1 cs.length : Nat) : Int) := Int.emod_nonneg _ (by omega)
              have z2 : p % ((max 1 cs.length : Nat) : Int) < (max 1 cs.length : Nat) := Int.emod_lt_of_pos _ (by omega)
              rw [List.length_append]
              simp only [List.length_singleton]
              omega
            have hat : atI ((cs ++ [0]).map V.int) (p % (max 1 cs.length : Nat)) = some (.int c) := by
              unfold atI
              rw [List.length_map]
              have z1 : 0 ≤ p % ((max 1 cs.length : Nat) : Int) := Int.emod_nonneg _ (by omega)
              have z3 : p % ((max 1 cs.length : Nat) : Int) < ((cs ++ [0]).length : Nat) := by omega
              unfold ixN
              rw [if_pos z1, if_pos z3]
              show ((cs ++ [0]).map V.int)[(p % (max 1 cs.length : Nat)).toNat]? = _
              rw [List.getElem?_map, List.getElem?_eq_getElem hlt, hc, List.getD_eq_getElem?_getD, List.getElem?_eq_getElem hlt]
              rfl
            have nb : ∀ q1, H q1 = none → a ≠ q1 ∧ b ≠ q1 := fun q1 hq => ⟨fun z => (by rw [← z, h1] at hq; cases hq), fun z => (by rw [← z, h2] at hq; cases hq)⟩
            -- the cell
            refine ⟨_, rfl, a, _, 1, .ref b, rfl, rfl, SqL.of h1, rfl, ⟨by show 1 ≤ sizeLine; decide, fun q1 hq1 => ?_⟩⟩
            have nb1 := nb q1 hq1
            have g1 : upd H q1 (.lst [.int 0]) a = some (.lst [.int s, .ref b, .int p]) := by rw [upd_ne nb1.1]; exact h1
            have g2 : upd H q1 (.lst [.int 0]) b = some (.lst (cs.map V.int)) := by rw [upd_ne nb1.2]; exact h2
            refine ⟨b, q1, _, _, rfl, rfl, g2, upd_same, hcz, fun q2 hq2 => ?_⟩
            have nq : q2 ≠ q1 := fun z => by rw [z, upd_same] at hq2; cases hq2
            have hq2' : H q2 = none := by rw [upd_ne nq] at hq2; exact hq2
            have nb2 := nb q2 hq2'
            obtain ⟨H2, hH2⟩ : ∃ H2, H2 = upd (upd H q1 (.lst [.int 0])) q2 (.lst (cs.map V.int ++ [.int 0])) := ⟨_, rfl⟩
            rw [← hH2]
            have k1 : H2 a = some (.lst [.int s, .ref b, .int p]) := by rw [hH2, upd_ne nb2.1]; exact g1
            have k2 : H2 b = some (.lst (cs.map V.int)) := by rw [hH2, upd_ne nb2.2]; exact g2
            have k3 : H2 q2 = some (.lst ((cs ++ [0]).map V.int)) := by rw [hH2, upd_same]; simp
            have kp : ∀ c o, H c = some o → H2 c = some o := fun c o e => by
              rw [hH2, upd_ne (ne_of_none e hq2'), upd_ne (ne_of_none e hq1)]
              exact e
            have kt : ∀ c, H2 c = none → H c = none := fun c e => by
              cases z : H c with
              | none => rfl
              | some o => rw [kp c o z] at e; cases e
            have emax : (if ((cs.length : Nat) : Int) > 1 then ((cs.length : Nat) : Int) else 1) = ((max 1 cs.length : Nat) : Int) := by
              by_cases z : ((cs.length : Nat) : Int) > 1
              · rw [if_pos z]; omega
              · rw [if_neg z]; omega
            refine ⟨_, rfl, a, _, 2, .int p, rfl, rfl, SqL.of k1, rfl, _, rfl, a, _, 1, .ref b, rfl, rfl, SqL.of k1, rfl, _, cs.length, rfl, .inl ⟨_, SqL.of k2, by simp⟩, 1, _, rfl, p, _, rfl, rfl, ?_, ?_⟩
            · rw [emax]; omega
            rw [emax]
            refine ⟨q2, _, _, .int c, rfl, rfl, SqL.of k3, hat, ?_⟩
            -- the test
            refine ⟨_, rfl, _, _, rfl, rfl, ⟨by decide, by decide, by decide⟩, c, _, rfl, rfl, _, rfl, ?_⟩
            by_cases hbig : (10 : Int) ^ 18 ≤ c
            · have eN : nextD s cs p many = (c % many, .drw s (cs.set (p % cs.length).toNat (c / many)) p) := by
                unfold nextD
                rw [← hc]
                exact if_pos hbig
              have hpos : 0 < cs.length := by
                cases cs with
                | nil =>
                  exfalso
                  have z : c = 0 := by
                    rw [hc]
                    cases (p % (max 1 ([] : List Int).length : Nat)).toNat with
                    | zero => rfl
                    | succ k => rfl
                  rw [z] at hbig
                  exact absurd hbig (by decide)
                | cons c cs => exact Nat.succ_pos _
              refine (if_pos (decide_eq_true hbig)).mpr ?_
              rw [eN] at fin q
              refine ⟨_, rfl, _, rfl, c, many, rfl, rfl, ⟨hm0, hm1⟩, ?_⟩
              refine ⟨_, rfl, a, _, 1, .ref b, rfl, rfl, SqL.of k1, rfl, ?_⟩
              refine ⟨_, rfl, a, _, 2, .int p, rfl, rfl, SqL.of k1, rfl, _, rfl, a, _, 1, .ref b, rfl, rfl, SqL.of k1, rfl, _, cs.length, rfl, .inl ⟨_, SqL.of k2, by simp⟩, p, _, rfl, rfl, by omega, ?_⟩
              refine ⟨b, _, _, (p % (cs.length : Int)).toNat, rfl, rfl, k2, by rw [List.length_map]; exact ixN_mod hpos, ?_⟩
              refine ⟨_, rfl, _, rfl, c, many, rfl, rfl, hm0, ?_⟩
              obtain ⟨y, Ry, sy⟩ := fin (upd H2 b (.lst ((cs.map V.int).set (p % (cs.length : Int)).toNat (.int (c / many))))) (fun d o e _ n2 => by rw [upd_ne n2]; exact kp d o e) (upd_there kt) (by rw [upd_ne hab]; exact k1) (by rw [upd_same, List.map_set])
              exact q _ y _ Ry (.int _) sy
            · have eN : nextD s cs p many = ((s * 48271 + c * 69621 + 11) % 2147483647 / 7 % many, .drw ((s * 48271 + c * 69621 + 11) % 2147483647) cs (p + 1)) := by
                unfold nextD
                rw [← hc]
                exact if_neg hbig
              refine (if_neg (by simpa using hbig)).mpr ?_
              rw [eN] at fin q
              have hne : ∀ {u : HO} , upd H2 a u b = some (.lst (cs.map V.int)) := fun {u} => by rw [upd_ne (Ne.symm hab)]; exact k2
              refine ⟨_, rfl, a, _, 0, .int s, rfl, rfl, SqL.of k1, rfl, s, _, rfl, rfl, .inr (by decide), _, rfl, c, _, rfl, rfl, .inr (by decide), _, _, rfl, rfl, _, _, rfl, rfl, _, _, rfl, rfl, (by show (0 : Int) < 2147483647; decide), ?_⟩
              refine ⟨_, rfl, a, _, 0, 0, rfl, rfl, k1, rfl, ?_⟩
              refine ⟨_, rfl, a, _, 2, .int p, rfl, rfl, SqL.of upd_same, rfl, p, _, rfl, rfl, ?_⟩
              refine ⟨_, rfl, a, _, 2, 2, rfl, rfl, upd_same, rfl, ?_⟩
              refine ⟨_, rfl, a, _, 0, .int _, rfl, rfl, SqL.of upd_same, rfl, _, _, rfl, rfl, ⟨by decide, by decide⟩, _, rfl, _, many, rfl, rfl, hm0, ?_⟩
              obtain ⟨y, Ry, sy⟩ := fin (upd (upd H2 a (.lst [.int ((s * 48271 + c * 69621 + 11) % 2147483647), .ref b, .int p])) a (.lst [.int ((s * 48271 + c * 69621 + 11) % 2147483647), .ref b, .int (p + 1)])) (fun d o e n1 _ => by rw [upd_ne n1, upd_ne n1]; exact kp d o e) (upd_there (upd_there kt)) upd_same (by rw [upd_ne (Ne.symm hab)]; exact hne)
              exact q _ y _ Ry (.int _) sy
    · exact q.elim
  · exact q.elim
end
end Dl
/-! The data layer: what can be called by its name; a def that calls itself; the law's own def. -/
namespace Dl
open PySem PySem.Spec PyProof.Rows L2 TL

/-- a def of the text as it stands behind the top -/
structure DefIs (K : PySem.W.Frag) (mg : Str → Option Value) (x : Str) (st : Stmt) : Prop where
  ex : ∃ f fd, Fun K x x st f fd ∧ mg x = some (.ref f)
/-- what can be called by its name -/
structure Cal (P : Program) (w : World) (K : PySem.W.Frag) (mg : Str → Option Value) (base : Heap) (k : Nat) (x : Str) (n : Nat) (t : Tf) (φ : Fd) : Prop where
  ex : ∃ f fd ps, FnOk P w K mg base (L2.CX P w) k f fd ps (spF t n φ) ∧ mg x = some (.ref f) ∧ PySem.W.keepIn K (.ref f) = true ∧ Binds K fd ps []
section
variable {P : Program} {w : World} {K : PySem.W.Frag} {mg : Str → Option Value} {base : Heap} {k j n : Nat} {x : Str} {t : Tf} {φ ψ : Fd} {st : Stmt} {N ps : List Str} {b : SS}
theorem Cal.mono (C : Cal P w K mg base j x n t φ) (h : j ≤ k) : Cal P w K mg base k x n t φ := by
  obtain ⟨f, fd, ps, F, r⟩ := C.ex
  exact ⟨f, fd, ps, F.mono h, r⟩
theorem Cal.as (C : Cal P w K mg base k x n t φ) (h : ∀ ds m, ds.length = n → ψ ds m = .bad ∨ ψ ds m = φ ds m) : Cal P w K mg base k x n t ψ := by
  obtain ⟨f, fd, ps, F, r⟩ := C.ex
  exact ⟨f, fd, ps, fn_as F h, r⟩
abbrev BindsOk (st : Stmt) (x : Str) (ps : List Str) : Prop := ∀ (kV doc pm : Value) (an : Option Addr) (cdv ct : Value) (us : List Value), us.length = ps.length → bindArgs (PySem.W.fnOf x x (defArgs st) (defBody st) (defScope st) .none kV doc pm an cdv ct) ⟨us, []⟩ = pure (ps.zip us)
theorem Cal.of (D : DefIs K mg x st) (S : FnScope N ps (defScope st)) (hb : BindsOk st x ps)
    (hbody : ∀ (f : Addr) (cdv : Value) (A : Around) (outer : List PySem.Env) (s : Shared) (H : Hp) (E : XK), Room k (A.deeper (envOfC x (defScope st) s.heap.objs.size f cdv)) → DSs (cxOf (L2.CX P w) P w K mg base N x (defScope st) f cdv A outer s H E) (t.wi E) (defBody st) b) :
    Cal P w K mg base (k + 1) x ps.length t (fD N b) := by
  obtain ⟨f, fd, F, hm⟩ := D.ex
  exact ⟨f, fd, ps, fn_def F S (hbody f), hm, F.kp, F.binds hb⟩
/-- by another Sp -/
theorem Cal.raw (D : DefIs K mg x st) (S : FnScope N ps (defScope st)) (hb : BindsOk st x ps) {tt : TS}
    (hbody : ∀ (f : Addr) (cdv : Value) (A : Around) (outer : List PySem.Env) (s : Shared) (H : Hp) (E : XK), Room k (A.deeper (envOfC x (defScope st) s.heap.objs.size f cdv)) → PSs (cxOf (L2.CX P w) P w K mg base N x (defScope st) f cdv A outer s H E) (defBody st) tt)
    (hp : ∀ vs H Q E, spF t ps.length φ vs H Q E → tt { nx := fun _ H' => Q .non H', rt := Q } (L2.start N vs) H) : Cal P w K mg base (k + 1) x ps.length t φ := by
  obtain ⟨f, fd, F, hm⟩ := D.ex
  exact ⟨f, fd, ps, F.okX S (fun vs H Q E h => h.1) fun cdv A outer s H vs Q E hr h => ⟨tt, hbody f cdv A outer s H E hr, hp vs H Q E h⟩, hm, F.kp, F.binds hb⟩
theorem Cal.none (D : DefIs K mg x st) (hb : BindsOk st x ps) : Cal P w K mg base 0 x ps.length t (fun _ _ => .bad) := by
  obtain ⟨f, fd, F, hm⟩ := D.ex
  exact ⟨f, fd, ps, ⟨fun vs H Q E h => h.1, fun A outer s H args us vs Q E _ _ _ _ h => by
    obtain ⟨_, _, _, _, _, _, q⟩ := h
    exact q.elim⟩, hm, F.kp, F.binds hb⟩
/-- a def that calls itself, so many times deep -/
def recF (body : Fd → Fd) : Nat → Fd
  | 0 => fun _ _ => .bad
  | d + 1 => body (recF body d)
theorem Cal.recur {body : Fd → Fd} (C0 : Cal P w K mg base j x n t (fun _ _ => .bad)) (h : ∀ (k : Nat) (φ : Fd), j ≤ k → Cal P w K mg base k x n t φ → Cal P w K mg base (k + 1) x n t (body φ)) : ∀ d, Cal P w K mg base (j + d) x n t (recF body d)
  | 0 => C0
  | d + 1 => h (j + d) (recF body d) (Nat.le_add_right _ _) (Cal.recur C0 h d)
end
section
variable {X : Cx} {w : Wi} {k n : Nat} {φ : Fd} {nm : Str} {p pos : Pos} {e : Expr} {es : List Expr} {g : SL}
theorem de_callC (C : Cal X.prog X.w X.K X.mg X.base k nm n w.tf φ) (hr : Room k X.A) (hg : Gl X nm) (tk : L2.Takes X w.W) (ha : DA X w (e :: es) g) (hdb : (nm == ("__debug__" : Str)) = false := by decide) (he : starEach (e :: es) X.env = (false, eval e X.env) :: starEach es X.env := by rfl) (hpl : (backTo pos (starEach es X.env)).any (·.1) = false := by rfl) :
    DE X w (.Call (.Name nm p) (e :: es) [] pos) (sCall (callF n φ) g) := by
  obtain ⟨f, fd, ps, F, hm, hk, hb⟩ := C.ex
  exact de_call rfl F hr hg hm hk hb tk ha hdb he hpl
end

/-! ### the law's own def: _law_h = _law_mix(script, seed), then the rest -/
def spLaw (K : PySem.W.Frag) : Sp := fun vs H Q _ => ∃ (a : Addr) (ns : List Int), vs = [.ref a] ∧ ns.length ≤ 63 ∧ SqL K H a (ns.map V.int) ∧ L2.Only H ∧ ∀ H', Q (.bl true) H'
def lawE (N : List Str) (a : Addr) : Env := some (.val (.cst (.ref a))) :: some (.val (.obj 0)) :: List.replicate (N.length - 2) none
/-- what the rest of the law's def comes to -/
def LawOk (N : List Str) (seed : Int) (g : SS) : Prop := ∀ (a : Addr) (ns : List Int), ns.length ≤ 63 → ∃ m, g (lawE N a) [.drw (mixS ns seed) ns 0] = .rt (.bl true) m
theorem law_start {K : PySem.W.Frag} {w : Wi} {N : List Str} {seed : Int} {g : SS} (h : LawOk N seed g) (h2 : 2 ≤ N.length) {vs : List V} {H : Hp} {Q : VK} {E : XK} {We : L2.St → XK} (hs : spLaw K vs H Q E) :
    tSeq (tAsg (tCallS (spMix K) We (tCons (tVar 0) (tCons (tC (.int seed)) tNil))) (L2.gName 1)) (rdS w g) { nx := fun _ H' => Q .non H', rt := Q } (L2.start N vs) H := by
  obtain ⟨a, ns, rfl, hl, hS, hO, q⟩ := hs
  have e0 : L2.start N [.ref a] = some (.ref a) :: none :: List.replicate (N.length - 2) none := by
    unfold L2.start
    obtain ⟨k, hk⟩ : ∃ k, N.length = k + 2 := ⟨N.length - 2, by omega⟩
    rw [hk]
    rfl
  rw [e0]
  refine ⟨_, rfl, a, ns, seed, rfl, hS, fun b p hb hp hpb => ?_⟩
  obtain ⟨m, em⟩ := h a ns hl
  obtain ⟨H', hH⟩ : ∃ H', H' = upd (upd H b (.lst (ns.map V.int))) p (.lst [.int (mixS ns seed), .ref b, .int 0]) := ⟨_, rfl⟩
  have hpb' : H' p = some (.lst [.int (mixS ns seed), .ref b, .int 0]) := by rw [hH, upd_same]
  have hbb : H' b = some (.lst (ns.map V.int)) := by rw [hH, upd_ne (Ne.symm hpb), upd_same]
  show rdS w g _ (some (.ref a) :: some (.ref p) :: List.replicate (N.length - 2) none) _
  rw [← hH]
  refine ⟨⟨fun _ => none, [p], [], [p, b]⟩, lawE N a, [.drw (mixS ns seed) ns 0], ⟨fun c o z => (by cases z), ?_, Stos.cons (A := []) (ObjR.drw hpb' hbb) .nil, by simpa using hpb, fun _ _ => rfl⟩, ?_⟩
  · refine Vars.cons (A0 := []) (.val (.cst _)) (Vars.cons (A0 := []) (A := []) (.val (.obj rfl)) ?_)
    generalize N.length - 2 = k
    induction k with
    | zero => exact .nil
    | succ k ih => exact .skip ih
  · rw [em]
    intro v y H2 _ rp _
    cases rp
    exact q H2
section
variable {P : Program} {w : World} {K : PySem.W.Frag} {mg : Str → Option Value} {base : Heap} {k : Nat} {x : Str} {st : Stmt} {N ps : List Str}
/-- the draws' start can be called -/
structure MixOk (P : Program) (w : World) (K : PySem.W.Frag) (mg : Str → Option Value) (base : Heap) (k : Nat) (x : Str) : Prop where
  ex : ∃ f fd ps, FnOk P w K mg base (L2.CX P w) k f fd ps (spMix K) ∧ mg x = some (.ref f) ∧ PySem.W.keepIn K (.ref f) = true ∧ Binds K fd ps []
theorem MixOk.of (D : DefIs K mg x st) (S : FnScope N ps (defScope st)) (hb : BindsOk st x ps) (hN : N.length = 4) (hp : ps.length = 2)
    (hbody : ∀ (f : Addr) (cdv : Value) (A : Around) (outer : List PySem.Env) (s : Shared) (H : Hp) (E : XK), Room k (A.deeper (envOfC x (defScope st) s.heap.objs.size f cdv)) → PSs (cxOf (L2.CX P w) P w K mg base N x (defScope st) f cdv A outer s H E) (defBody st) (t_mix K)) : MixOk P w K mg base (k + 1) x := by
  obtain ⟨f, fd, F, hm⟩ := D.ex
  exact ⟨f, fd, ps, F.okX S (fun vs H Q E h => by
    obtain ⟨a, cs, seed, rfl, _⟩ := h
    exact hp.symm) fun cdv A outer s H vs Q E hr h => ⟨t_mix K, hbody f cdv A outer s H E hr, pure_mix N hN vs H Q E h⟩, hm, F.kp, F.binds hb⟩
theorem pss_mix {X : Cx} {w : Wi} {j : Nat} {seed : Int} {g : SS} {hx lx : Str} {p1 p2 p3 p4 p5 p6 : Pos} {jj : Nat} {rest : List Stmt} (M : MixOk X.prog X.w X.K X.mg X.base j x) (hr : Room j X.A) (tk : L2.Takes X w.W) (hg : Gl X x) (nd : X.N.Nodup) (h0 : PE X (.Name lx p3) (tVar 0)) (h1 : X.N[1]? = some hx) (hl : Loc X.env.scope hx)
    (h : DSs X w rest g) (hdb : (x == ("__debug__" : Str)) = false := by decide) (he : starEach [.Name lx p3, .Constant (.int seed) jj p4] X.env = (false, eval (.Name lx p3) X.env) :: starEach [.Constant (.int seed) jj p4] X.env := by rfl)
    (he' : starEach [.Constant (.int seed) jj p4] X.env = (false, eval (.Constant (.int seed) jj p4) X.env) :: starEach [] X.env := by rfl) (hpl : (backTo p5 (starEach [.Constant (.int seed) jj p4] X.env)).any (·.1) = false := by rfl)
    (hs : swapsWith (.Call (.Name x p2) [.Name lx p3, .Constant (.int seed) jj p4] [] p5) (some (.Name hx p1)) p6.line X.env = pure false := by rfl) (hf : X.fn hx = true ∨ X.env.scope.names.lookup hx = some .local := by first | exact .inl rfl | exact .inr rfl | assumption) :
    PSs X (.Assign [.Name hx p1] (.Call (.Name x p2) [.Name lx p3, .Constant (.int seed) jj p4] [] p5) p6 :: rest) (tSeq (tAsg (tCallS (spMix X.K) (WE w.W) (tCons (tVar 0) (tCons (tC (.int seed)) tNil))) (L2.gName 1)) (rdS w g)) := by
  obtain ⟨f, fd, ps, F, hm, hk, hb⟩ := M.ex
  exact pss_cons (ps_set (i := 1) nd h1 hl (pe_callS F hr hg hm hk hb (fun σ => passAt tk σ) (pa_cons h0 (pa_cons pe_int pa_nil he') he) hdb he hpl) hs hf) h
theorem law_fn {f : Addr} {fd : FuncData} {lx : Str} {seed : Int} {g : SS} {t : Tf} (F : Fun K "law" "law" st f fd) (S : FnScope N [lx] (defScope st)) (h : LawOk N seed g) (h2 : 2 ≤ N.length)
    (hbody : ∀ (cdv : Value) (A : Around) (outer : List PySem.Env) (s : Shared) (H : Hp) (E : XK), Room k (A.deeper (envOfC "law" (defScope st) s.heap.objs.size f cdv)) → PSs (cxOf (L2.CX P w) P w K mg base N "law" (defScope st) f cdv A outer s H E) (defBody st) (tSeq (tAsg (tCallS (spMix K) (WE (t.wi E).W) (tCons (tVar 0) (tCons (tC (.int seed)) tNil))) (L2.gName 1)) (rdS (t.wi E) g))) :
    FnOk P w K mg base (L2.CX P w) (k + 1) f fd [lx] (spLaw K) :=
  F.okX S (fun vs H Q E h => by
    obtain ⟨a, ns, rfl, _⟩ := h
    rfl) fun cdv A outer s H vs Q E hr hs => ⟨_, hbody cdv A outer s H E hr, law_start h h2 hs⟩
end
end Dl
/-! The data layer: a few rules in the form in which they are printed. -/
namespace Dl
open PySem PySem.Spec PyProof.Rows L2 TL
section
variable {X : Cx} {w : Wi} {pos : Pos} {e o : Expr} {fe : SE}
theorem de_gstrE (l : List Nat) {x y : Str} (hg : Gl X x) (hm : ∃ t, X.mg x = some (.str y t)) (h : y = ⟨l.toArray⟩ := by decide +kernel) (hd : (x == ("__debug__" : Str)) = false := by decide) : DE X w (.Name x pos) (sC (.str l)) :=
  let ⟨t, hm⟩ := hm
  de_gstr l hg hm h hd
theorem de_gintE {i : Int} {x : Str} (hg : Gl X x) (hm : ∃ t, X.mg x = some (.int i t)) (hd : (x == ("__debug__" : Str)) = false := by decide) : DE X w (.Name x pos) (sC (.int i)) :=
  let ⟨t, hm⟩ := hm
  de_gint hg hm hd
theorem ds_appD {i : Nat} {p1 p2 : Pos} (ho : PE X o (tVar i)) (ha : DE X w e fe)
    (hs : swapsWith (.Call (.Attribute o "append" p1) [e] [] p2) none pos.line X.env = pure false := by rfl) (hst : starEach [e] X.env = [(false, eval e X.env)] := by rfl)
    (hbase : attributeBase o "append" X.env (eval o X.env) = eval o X.env := by rfl)
    (hfew : ((backTo p2 (starEach [e] X.env)).all (fun x => !x.1) && (backToKw p2 (keywordEach [] X.env)).all (fun x => x.1.isSome)
      && decide ([e].length + ([] : List Keyword).length + (if ([] : List Keyword).isEmpty then 0 else 1) < 30)) = true := by rfl)
    (hline : (p1.endLine == p2.line) = true := by rfl) (hpl : (backTo p2 (starEach [] X.env)).any (·.1) = false := by rfl) :
    DS X w (.Expr (.Call (.Attribute o "append" p1) [e] [] p2) pos) (sApp i fe) :=
  ds_app ho ha hs hst (pe_bm PySem.F.plainAttrs_list PySem.F.slot_list_append PySem.F.type_list_append mt_append ho (pa_cons ha pa_nil hst) hbase hfew hline hst hpl)
theorem ds_extD {i : Nat} {p1 p2 : Pos} (ho : PE X o (tVar i)) (ha : DE X w e fe)
    (hs : swapsWith (.Call (.Attribute o "extend" p1) [e] [] p2) none pos.line X.env = pure false := by rfl) (hst : starEach [e] X.env = [(false, eval e X.env)] := by rfl)
    (hbase : attributeBase o "extend" X.env (eval o X.env) = eval o X.env := by rfl)
    (hfew : ((backTo p2 (starEach [e] X.env)).all (fun x => !x.1) && (backToKw p2 (keywordEach [] X.env)).all (fun x => x.1.isSome)
      && decide ([e].length + ([] : List Keyword).length + (if ([] : List Keyword).isEmpty then 0 else 1) < 30)) = true := by rfl)
    (hline : (p1.endLine == p2.line) = true := by rfl) (hpl : (backTo p2 (starEach [] X.env)).any (·.1) = false := by rfl) :
    DS X w (.Expr (.Call (.Attribute o "extend" p1) [e] [] p2) pos) (sExt i fe) :=
  ds_ext ho ha hs (pe_bm PySem.F.plainAttrs_list PySem.F.slot_list_extend PySem.F.type_list_extend mt_extend ho (pa_cons ha pa_nil hst) hbase hfew hline hst hpl)
end
end Dl
/-! The data layer: evaluating what has been printed. -/
namespace Dl
open PySem PySem.Spec PyProof.Rows L2 TL

section
variable {r : Env} {m : Sto} {i j k l : Nat} {f g h : SE} {t u : SB} {a b : SS} {gl : SL}
@[simp] theorem ev_var : sVar i r m = (match r[i]? with | some (some (.val d)) => .ok d m | _ => .bad) := rfl
@[simp] theorem ev_pk : sPk i r m = (match r[i]? with | some (some (.val d)) => .ok d m | some (some (.lst l)) => .ok (.lst l) m | _ => .bad) := rfl
@[simp] theorem ev_c {d : D} : sC d r m = .ok d m := rfl
@[simp] theorem ev_bin {o : D → D → Sto → R D} : sBin o f g r m = bindR (f r m) fun x m1 => bindR (g r m1) fun y m2 => o x y m2 := rfl
@[simp] theorem ev_B : sB f r m = bindR (f r m) fun d m => match d with | .bl b => .ok b m | _ => .bad := rfl
@[simp] theorem ev_And : sAnd t u r m = bindR (t r m) fun b m => if b = true then u r m else .ok false m := rfl
@[simp] theorem ev_Or : sOr t u r m = bindR (t r m) fun b m => if b = true then .ok true m else u r m := rfl
@[simp] theorem ev_Not : sNot t r m = bindR (t r m) fun b m => .ok (!b) m := rfl
@[simp] theorem ev_AndV : sAndV f g r m = bindR (sB f r m) fun b m => if b = true then g r m else .ok (.bl false) m := rfl
@[simp] theorem ev_OrV : sOrV f g r m = bindR (sB f r m) fun b m => if b = true then .ok (.bl true) m else g r m := rfl
@[simp] theorem ev_NotV : sNotV f r m = bindR (sB f r m) fun b m => .ok (.bl (!b)) m := rfl
@[simp] theorem ev_If : sIf t f g r m = bindR (t r m) fun b m => if b = true then f r m else g r m := rfl
@[simp] theorem ev_Chain {o p : D → D → Sto → R D} : sChain o p f g h r m = bindR (f r m) fun x m => bindR (g r m) fun y m => bindR (o x y m) fun k m => match k with
  | .bl true => bindR (h r m) fun z m => p y z m
  | .bl false => .ok (.bl false) m
  | _ => .bad := rfl
@[simp] theorem ev_Neg : sNeg f r m = bindR (f r m) fun d m => match d with | .int i => .ok (.int (-i)) m | _ => .bad := rfl
@[simp] theorem ev_nil : aNil r m = .ok [] m := rfl
@[simp] theorem ev_cons : aCons f gl r m = bindR (f r m) fun d m => bindR (gl r m) fun ds m => .ok (d :: ds) m := rfl
@[simp] theorem ev_tup : sTup gl r m = bindR (gl r m) fun ds m => if ds.length ≤ LIM then .ok (.tup ds) m else .bad := rfl
@[simp] theorem ev_lst : sLst gl r m = bindR (gl r m) fun ds m => if ds.length ≤ LIM then .ok (.lst ds) m else .bad := rfl
@[simp] theorem ev_oNone : oNone r m = .ok none m := rfl
@[simp] theorem ev_oSome : oSome f r m = bindR (f r m) fun d m => match d with | .int i => .ok (some i) m | _ => .bad := rfl
@[simp] theorem ev_sl {lo hi : SO} : sSl f lo hi r m = bindR (f r m) fun d m => bindR (lo r m) fun l m => bindR (hi r m) fun u m => opSl d l u m := rfl
@[simp] theorem ev_call {φ : Fd} : sCall φ gl r m = bindR (gl r m) fun ds m => φ ds m := rfl
@[simp] theorem ev_callF {n : Nat} {φ : Fd} {ds : List D} : callF n φ ds m = if ds.length = n then φ ds m else .bad := rfl
@[simp] theorem ev_meth {T : String} {o : D → List D → Sto → R D} : sMeth T o f gl r m = bindR (f r m) fun d m => if kD d = T then bindR (gl r m) fun ds m => o d ds m else .bad := rfl
@[simp] theorem kD_str {z : List Nat} : kD (.str z) = "str" := rfl
@[simp] theorem add_int {i j : Int} : opAdd (.int i) (.int j) m = .ok (.int (i + j)) m := rfl
@[simp] theorem add_str {x y : List Nat} : opAdd (.str x) (.str y) m = if x.length + y.length ≤ LIM then .ok (.str (x ++ y)) m else .bad := rfl
@[simp] theorem add_lst {x y : List D} : opAdd (.lst x) (.lst y) m = if x.length + y.length ≤ LIM then .ok (.lst (x ++ y)) m else .bad := rfl
@[simp] theorem add_tup {x y : List D} : opAdd (.tup x) (.tup y) m = if x.length + y.length ≤ LIM then .ok (.tup (x ++ y)) m else .bad := rfl
@[simp] theorem sub_int {i j : Int} : opSub (.int i) (.int j) m = .ok (.int (i - j)) m := rfl
@[simp] theorem mod_int {i j : Int} : opMod (.int i) (.int j) m = if 0 < j then .ok (.int (i % j)) m else .bad := rfl
@[simp] theorem div_int {i j : Int} : opDiv (.int i) (.int j) m = if 0 < j ∧ j < 1073741824 then .ok (.int (i / j)) m else .bad := rfl
@[simp] theorem lt_int {i j : Int} : opLt (.int i) (.int j) m = .ok (.bl (decide (i < j))) m := rfl
@[simp] theorem le_int {i j : Int} : opLe (.int i) (.int j) m = .ok (.bl (decide (i ≤ j))) m := rfl
@[simp] theorem gt_int {i j : Int} : opGt (.int i) (.int j) m = .ok (.bl (decide (j < i))) m := rfl
@[simp] theorem ge_int {i j : Int} : opGe (.int i) (.int j) m = .ok (.bl (decide (j ≤ i))) m := rfl
@[simp] theorem ev_eq {a b : D} : opEq a b m = if okN 60 a = true ∧ okN 60 b = true then .ok (.bl (eqD a b)) m else .bad := rfl
@[simp] theorem ev_ne {a b : D} : opNe a b m = if okN 60 a = true ∧ okN 60 b = true then .ok (.bl (!eqD a b)) m else .bad := rfl
@[simp] theorem ev_in {a b : D} : opIn a b m = ofO ((inD a b).map D.bl) m := rfl
@[simp] theorem ev_nin {a b : D} : opNin a b m = ofO ((inD a b).map fun k => D.bl (!k)) m := rfl
@[simp] theorem in_str {c : Nat} {z : List Nat} : inD (.str [c]) (.str z) = some (decide (c ∈ z)) := rfl
@[simp] theorem is_non {a : D} : opIs a .non m = ofO ((isNonD a).map D.bl) m := rfl
@[simp] theorem isn_non {a : D} : opIsn a .non m = ofO ((isNonD a).map fun k => D.bl (!k)) m := rfl
@[simp] theorem isNon_non : isNonD .non = some true := rfl
@[simp] theorem isNon_tup {l : List D} : isNonD (.tup l) = some false := rfl
@[simp] theorem isNon_lst {l : List D} : isNonD (.lst l) = some false := rfl
@[simp] theorem isNon_int {l : Int} : isNonD (.int l) = some false := rfl
@[simp] theorem isNon_str {l : List Nat} : isNonD (.str l) = some false := rfl
@[simp] theorem ev_ix {a b : D} : opIx a b m = ofO (ixD a b) m := rfl
@[simp] theorem ix_l {l : List D} {i : Int} : ixD (.lst l) (.int i) = atI l i := rfl
@[simp] theorem ix_t {l : List D} {i : Int} : ixD (.tup l) (.int i) = atI l i := rfl
@[simp] theorem sl_l {l : List D} {lo hi : Option Int} : opSl (.lst l) lo hi m = .ok (.lst (cutL l lo hi)) m := rfl
@[simp] theorem sl_t {l : List D} {lo hi : Option Int} : opSl (.tup l) lo hi m = .ok (.tup (cutL l lo hi)) m := rfl
@[simp] theorem len_str {z : List Nat} : fLen [.str z] m = if z.length ≤ LIM then .ok (.int z.length) m else .bad := rfl
@[simp] theorem len_lst {l : List D} : fLen [.lst l] m = .ok (.int l.length) m := rfl
@[simp] theorem len_tup {l : List D} : fLen [.tup l] m = .ok (.int l.length) m := rfl
@[simp] theorem max_int {i j : Int} : fMax [.int i, .int j] m = .ok (.int (max i j)) m := rfl
@[simp] theorem min_int {i j : Int} : fMin [.int i, .int j] m = .ok (.int (min i j)) m := rfl
@[simp] theorem int_int {i : Int} : fInt [.int i] m = .ok (.int i) m := rfl
@[simp] theorem int_bl {b : Bool} : fInt [.bl b] m = .ok (.int (if b then 1 else 0)) m := rfl
@[simp] theorem text_str {z : List Nat} : fText [.str z] m = .ok (.str z) m := rfl
@[simp] theorem tuple_l {l : List D} : fTuple [.lst l] m = .ok (.tup l) m := rfl
@[simp] theorem tuple_t {l : List D} : fTuple [.tup l] m = .ok (.tup l) m := rfl
@[simp] theorem list_l {l : List D} : fList [.lst l] m = .ok (.lst l) m := rfl
@[simp] theorem list_t {l : List D} : fList [.tup l] m = .ok (.lst l) m := rfl
@[simp] theorem ev_skip : sSkip r m = .nx r m := rfl
@[simp] theorem ev_seq : sSeq a b r m = (match a r m with | .nx r m => b r m | o => o) := rfl
@[simp] theorem ev_forget : sForget i b r m = b (r.set i none) m := rfl
@[simp] theorem ev_freeze : sFreeze i b r m = (match r[i]? with | some (some (.lst l)) => b (r.set i (some (.val (.lst l)))) m | _ => .bad) := rfl
@[simp] theorem ev_ret : sRet f r m = bindS r (f r m) fun d m => .rt d m := rfl
@[simp] theorem ev_expr : sExpr f r m = bindS r (f r m) fun _ m => .nx r m := rfl
@[simp] theorem ev_ifS : sIfS t a b r m = bindS r (t r m) fun c m => if c = true then a r m else b r m := rfl
@[simp] theorem ev_cV : cV f r m = bindR (f r m) fun d m => .ok (.val d) m := rfl
@[simp] theorem ev_cL : cL gl r m = bindR (gl r m) fun ds m => if ds.length ≤ LIM then .ok (.lst ds) m else .bad := rfl
@[simp] theorem ev_set {f : SCe} : sSet i f r m = bindS r (f r m) fun c m => .nx (r.set i (some c)) m := rfl
@[simp] theorem ev_par {f g : SCe} : sPar i j f g r m = bindS r (f r m) fun c m => bindS r (g r m) fun d m => .nx ((r.set i (some c)).set j (some d)) m := rfl
@[simp] theorem ev_par3 {f g h : SCe} : sPar3 i j l f g h r m = bindS r (f r m) fun c m => bindS r (g r m) fun d m => bindS r (h r m) fun k m => .nx (((r.set i (some c)).set j (some d)).set l (some k)) m := rfl
@[simp] theorem ev_asg {G : Gm} : sAsg G f r m = bindS r (f r m) fun d m => match G d r with | some r' => .nx r' m | none => .bad := rfl
@[simp] theorem ev_gN {d : D} : gN i d r = some (r.set i (some (.val d))) := rfl
@[simp] theorem ev_gTup {F : Gms} {l : List D} : gTup F (.tup l) r = F l r := rfl
@[simp] theorem ev_gsNil : gsNil [] r = some r := rfl
@[simp] theorem ev_gsCons {F : Gm} {G : Gms} {d : D} {l : List D} : gsCons F G (d :: l) r = (F d r).bind (G l) := rfl
@[simp] theorem ev_app : sApp i f r m = (match r[i]? with | some (some (.lst l)) => bindS r (f r m) fun d m => if l.length < LIM then .nx (r.set i (some (.lst (l ++ [d])))) m else .bad | _ => .bad) := rfl
@[simp] theorem ev_for {I : SL} {G : Gm} : sFor I G b r m = bindS r (I r m) fun l m => forL G b l r m := rfl
@[simp] theorem ev_It : sIt f r m = bindR (f r m) fun d m => ofO (itD d) m := rfl
@[simp] theorem itD_l {l : List D} : itD (.lst l) = some l := rfl
@[simp] theorem itD_t {l : List D} : itD (.tup l) = some l := rfl
@[simp] theorem itD_s {z : List Nat} : itD (.str z) = some (z.map fun c => .str [c]) := rfl
@[simp] theorem ev_En {d : D} (hg : gl r m = .ok [d] m) : sEn gl r m = (match itD d with | some l => .ok (enumL 0 l) m | _ => .bad) := by
  unfold sEn
  rw [hg]
  rfl
@[simp] theorem ev_Rg {i : Int} {m' : Sto} (hg : gl r m = .ok [.int i] m') : sRg gl r m = if inR i = true then .ok (rangeL 0 i.toNat) m' else .bad := by
  unfold sRg
  rw [hg]
  rfl
@[simp] theorem ev_Lc {vs : List Nat} {I : SL} {G : Gm} : sLc vs I G t f r m = bindR (I r m) fun ds m => if ds.length ≤ LIM ∧ vs.all (bare r) = true then bindR (lcL G t f (wipeE r vs) ds m) fun l m => .ok (.lst l) m else .bad := rfl
@[simp] theorem ev_yes : sYes r m = .ok true m := rfl
@[simp] theorem bindN_ok {α β : Type} {a : α} {F : α → Sto → R β} : bindN (.ok a m) F = F a m := rfl
@[simp] theorem ofFl_nx : ofFl (.nx r m) = .ok .non m := rfl
@[simp] theorem ofFl_rt {d : D} : ofFl (.rt d m) = .ok d m := rfl
@[simp] theorem bare_none {r : Env} : bare (none :: r) 0 = true := rfl
@[simp] theorem bare_val {r : Env} {d : D} : bare (some (.val d) :: r) 0 = true := rfl
@[simp] theorem bare_succ {r : Env} {c : Option Cell} {i : Nat} : bare (c :: r) (i + 1) = bare r i := by simp [bare]
@[simp] theorem wipeE_nil : wipeE r [] = r := rfl
@[simp] theorem wipeE_cons {v : Nat} {vs : List Nat} : wipeE r (v :: vs) = (wipeE r vs).set v none := rfl
@[simp] theorem atI_zero {α : Type} {x : α} {l : List α} : atI (x :: l) 0 = some x := by
  simp [atI, ixN]
end
/-! ### loops and comprehensions by what each turn does -/
theorem forL_nil {g : Gm} {b : SS} {r : Env} {m : Sto} : forL g b [] r m = .nx r m := rfl
/-- a turn that goes on -/
theorem forL_step {g : Gm} {b : SS} {d : D} {l : List D} {r r' r2 : Env} {m m2 : Sto} (h1 : g d r = some r') (h2 : b r' m = .nx r2 m2) : forL g b (d :: l) r m = forL g b l r2 m2 := by
  show (match g d r with | some r' => (match b r' m with | .nx r m => forL g b l r m | .ct r m => forL g b l r m | .bk r m => .nx r m | .rt d m => .rt d m | .exc c v r m => .exc c v r m | .bad => .bad) | none => .bad) = _
  rw [h1]
  dsimp only
  rw [h2]
/-- a loop whose turns all go on, by a state of one's own -/
theorem forL_inv {g : Gm} {b : SS} (I : Nat → Env → Sto → Prop) : ∀ (l : List D) (n : Nat) (r : Env) (m : Sto), I n r m →
    (∀ (k : Nat) (d : D) (r : Env) (m : Sto), l[k]? = some d → I (n + k) r m → ∃ r' r2 m2, g d r = some r' ∧ b r' m = .nx r2 m2 ∧ I (n + k + 1) r2 m2) → ∃ r2 m2, forL g b l r m = .nx r2 m2 ∧ I (n + l.length) r2 m2
  | [], n, r, m, h, _ => ⟨r, m, rfl, h⟩
  | d :: l, n, r, m, h, hs => by
    obtain ⟨r', r2, m2, h1, h2, h3⟩ := hs 0 d r m rfl h
    obtain ⟨r3, m3, e, i3⟩ := forL_inv I l (n + 1) r2 m2 h3 fun k d r m hk hi => by
      have e1 : n + 1 + k = n + (k + 1) := by omega
      rw [e1] at hi ⊢
      exact hs (k + 1) d r m (by simpa using hk) hi
    refine ⟨r3, m3, by rw [forL_step h1 h2, e], ?_⟩
    have e2 : n + 1 + l.length = n + (d :: l).length := by simp; omega
    rw [e2] at i3
    exact i3
/-- a loop that leaves all as it was -/
theorem forL_same {g : Gm} {b : SS} {l : List D} {r : Env} {m : Sto} (h : ∀ (k : Nat) (d : D), l[k]? = some d → ∃ r', g d r = some r' ∧ b r' m = .nx r m) : forL g b l r m = .nx r m := by
  obtain ⟨r2, m2, e, e1, e2⟩ := forL_inv (g := g) (b := b) (fun _ r' m' => r' = r ∧ m' = m) l 0 r m ⟨rfl, rfl⟩ fun k d r' m' hk ⟨e1, e2⟩ => by
    subst e1 e2
    obtain ⟨r2, h1, h2⟩ := h k d hk
    exact ⟨r2, r', m', h1, h2, rfl, rfl⟩
  rw [e, e1, e2]
/-- a comprehension without a draw -/
theorem lcL_map {g : Gm} {t : SB} {f : SE} {r0 : Env} {m : Sto} (φ : D → D) : ∀ (l : List D), (∀ d ∈ l, ∃ r', g d r0 = some r' ∧ t r' m = .ok true m ∧ f r' m = .ok (φ d) m) → lcL g t f r0 l m = .ok (l.map φ) m
  | [], _ => rfl
  | d :: l, h => by
    obtain ⟨r', h1, h2, h3⟩ := h d (List.mem_cons_self ..)
    have ih := lcL_map φ l fun d hd => h d (List.mem_cons_of_mem _ hd)
    unfold lcL
    rw [h1]
    simp [h2, h3, ih]
/-- by the place -/
theorem lcL_mapI {g : Gm} {t : SB} {f : SE} {r0 : Env} {m : Sto} : ∀ (l ys : List D), l.length = ys.length → (∀ (k : Nat) (d y : D), l[k]? = some d → ys[k]? = some y → ∃ r', g d r0 = some r' ∧ t r' m = .ok true m ∧ f r' m = .ok y m) → lcL g t f r0 l m = .ok ys m
  | [], [], _, _ => rfl
  | d :: l, y :: ys, hl, h => by
    obtain ⟨r', h1, h2, h3⟩ := h 0 d y rfl rfl
    have ih := lcL_mapI l ys (by simpa using hl) fun k d y hd hy => h (k + 1) d y (by simpa using hd) (by simpa using hy)
    unfold lcL
    rw [h1]
    simp [h2, h3, ih]
theorem lcL_filter {g : Gm} {t : SB} {f : SE} {r0 : Env} {m : Sto} (p : D → Bool) (φ : D → D) : ∀ (l : List D), (∀ d ∈ l, ∃ r', g d r0 = some r' ∧ t r' m = .ok (p d) m ∧ (p d = true → f r' m = .ok (φ d) m)) → lcL g t f r0 l m = .ok ((l.filter p).map φ) m
  | [], _ => rfl
  | d :: l, h => by
    obtain ⟨r', h1, h2, h3⟩ := h d (List.mem_cons_self ..)
    have ih := lcL_filter p φ l fun d hd => h d (List.mem_cons_of_mem _ hd)
    unfold lcL
    rw [h1]
    by_cases hp : p d = true
    · simp [h2, h3 hp, ih, hp]
    · simp [h2, ih, hp]
/-- with draws: each item is what P says -/
theorem lcL_draw {g : Gm} {t : SB} {f : SE} {r0 : Env} (G : Sto → Prop) (P : D → D → Prop) : ∀ (l : List D) (m : Sto), G m → (∀ d ∈ l, ∀ m, G m → ∃ r' y m', g d r0 = some r' ∧ t r' m = .ok true m ∧ f r' m = .ok y m' ∧ P d y ∧ G m') →
    ∃ ys m', lcL g t f r0 l m = .ok ys m' ∧ ys.length = l.length ∧ (∀ (k : Nat) (d y : D), l[k]? = some d → ys[k]? = some y → P d y) ∧ G m'
  | [], m, hm, _ => ⟨[], m, rfl, rfl, fun k d y h => by simp at h, hm⟩
  | d :: l, m, hm, h => by
    obtain ⟨r', y, m', h1, h2, h3, h4, h5⟩ := h d (List.mem_cons_self ..) m hm
    obtain ⟨ys, m2, e, el, hp, hg⟩ := lcL_draw G P l m' h5 fun d hd => h d (List.mem_cons_of_mem _ hd)
    refine ⟨y :: ys, m2, ?_, by simp [el], fun k d' y' e1 e2 => ?_, hg⟩
    · unfold lcL
      rw [h1]
      simp [h2, h3, e]
    · cases k with
      | zero => simp at e1 e2; subst e1 e2; exact h4
      | succ k => exact hp k d' y' (by simpa using e1) (by simpa using e2)
/-- with a draw in the test: some of the items -/
theorem lcL_some {g : Gm} {t : SB} {f : SE} {r0 : Env} (G : Sto → Prop) : ∀ (l : List D) (m : Sto), G m → (∀ d ∈ l, ∀ m, G m → ∃ r' b m', g d r0 = some r' ∧ t r' m = .ok b m' ∧ G m' ∧ f r' m' = .ok d m') →
    ∃ ys m', lcL g t f r0 l m = .ok ys m' ∧ ys.Sublist l ∧ G m'
  | [], m, hm, _ => ⟨[], m, rfl, .slnil, hm⟩
  | d :: l, m, hm, h => by
    obtain ⟨r', b, m', h1, h2, h3, h4⟩ := h d (List.mem_cons_self ..) m hm
    obtain ⟨ys, m2, e, sl, hg⟩ := lcL_some G l m' h3 fun d hd => h d (List.mem_cons_of_mem _ hd)
    cases b with
    | true =>
      refine ⟨d :: ys, m2, ?_, sl.cons₂ d, hg⟩
      unfold lcL
      rw [h1]
      simp [h2, h4, e]
    | false =>
      refine ⟨ys, m2, ?_, sl.cons d, hg⟩
      unfold lcL
      rw [h1]
      simp [h2, e]
/-! ### the draws -/
/-- the draws' object stands at 0 -/
def Good (m : Sto) : Prop := ∃ s cs p, m = [.drw s cs p] ∧ 0 ≤ p ∧ cs.length ≤ 63
theorem draw {m : Sto} (h : Good m) {k : Int} (h0 : 0 < k) (h1 : k < 1073741824) : ∃ v m', fNext [.obj 0, .int k] m = .ok (.int v) m' ∧ 0 ≤ v ∧ v < k ∧ Good m' := by
  obtain ⟨s, cs, p, rfl, hp, hc⟩ := h
  have hl : cs.length < LIM := Nat.lt_of_le_of_lt hc (by decide)
  have e : fNext [.obj 0, .int k] [.drw s cs p] = .ok (.int (nextD s cs p k).1) [(nextD s cs p k).2] := if_pos ⟨h0, h1, hp, hl⟩
  refine ⟨_, _, e, ?_, ?_, ?_⟩
  · unfold nextD
    dsimp only
    split <;> exact Int.emod_nonneg _ (by omega)
  · unfold nextD
    dsimp only
    split <;> exact Int.emod_lt_of_pos _ h0
  · unfold nextD
    dsimp only
    split
    · exact ⟨_, _, _, rfl, hp, by simpa using hc⟩
    · exact ⟨_, _, _, rfl, by omega, hc⟩
theorem good_start {ns : List Int} {s : Int} (h : ns.length ≤ 63) : Good [.drw s ns 0] := ⟨s, ns, 0, rfl, Int.le_refl 0, h⟩
end Dl
namespace Dl
open PySem PySem.Spec PyProof.Rows L2 TL
def n_need_row : List Str := ["row", "place", "sign"]
def b_need_row1 : SS := sSeq (sIfS (sOr (sB (sBin opEq (sPk 1) (sC (.int 12)))) (sB (sBin opNin (sPk 2) (sC (.str [97, 98, 99, 100, 101]))))) ((fun _ _ => .bad)) (sSkip)) (sForget 1 (sForget 2 (sSkip)))
def g_need_row2 : Gm := gTup (gsCons (gN 1) (gsCons (gN 2) (gsNil)))
def b_need_row : SS := sSeq (sFor (sEn (aCons (sVar 0) (aNil))) (g_need_row2) (b_need_row1)) (sIfS (sB (sBin opEq (sPk 0) (sC (.str [])))) ((fun _ _ => .bad)) (sSkip))
def f_need_row : Fd := fD n_need_row b_need_row
def n_need_bars : List Str := ["row", "bars", "number", "gap"]
def b_need_bars1 : SS := sSeq (sIfS (sOr (sNot (sB (sChain opLe opLt (sC (.int 0)) (sPk 3) (sBin opSub (sCall fLen (aCons (sPk 0) (aNil))) (sC (.int 1)))))) (sAnd (sB (sBin opGt (sPk 2) (sC (.int 0)))) (sB (sBin opLe (sPk 3) (sBin opIx (sPk 1) (sBin opSub (sPk 2) (sC (.int 1)))))))) ((fun _ _ => .bad)) (sSkip)) (sForget 2 (sForget 3 (sSkip)))
def g_need_bars2 : Gm := gTup (gsCons (gN 2) (gsCons (gN 3) (gsNil)))
def b_need_bars : SS := sFor (sEn (aCons (sVar 1) (aNil))) (g_need_bars2) (b_need_bars1)
def f_need_bars : Fd := fD n_need_bars b_need_bars
def n_is_kind : List Str := ["sign"]
def b_is_kind : SS := sRet (sAndV (sBin opEq (sCall fLen (aCons (sPk 0) (aNil))) (sC (.int 1))) (sBin opIn (sPk 0) (sC (.str [97, 98, 99, 100, 101]))))
def f_is_kind : Fd := fD n_is_kind b_is_kind
def n_is_rule : List Str := ["rule"]
def b_is_rule : SS := sSeq (sIfS (sOr (sB (sBin opNe (sCall fLen (aCons (sPk 0) (aNil))) (sC (.int 5)))) (sOr (sNot (sB (sCall (callF 1 f_is_kind) (aCons (sBin opIx (sPk 0) (sC (.int 0))) (aNil))))) (sOr (sNot (sB (sCall (callF 1 f_is_kind) (aCons (sBin opIx (sPk 0) (sC (.int 1))) (aNil))))) (sNot (sB (sCall (callF 1 f_is_kind) (aCons (sBin opIx (sPk 0) (sC (.int 4))) (aNil)))))))) (sRet (sC (.bl false))) (sSkip)) (sRet (sAndV (sBin opNe (sBin opIx (sPk 0) (sC (.int 4))) (sBin opIx (sPk 0) (sC (.int 0)))) (sAndV (sChain opLe opLe (sC (.int 1)) (sBin opIx (sPk 0) (sC (.int 2))) (sC (.int 2))) (sChain opLe opLe (sC (.int 1)) (sBin opIx (sPk 0) (sC (.int 3))) (sC (.int 4))))))
def f_is_rule : Fd := fD n_is_rule b_is_rule
def n_need_rules : List Str := ["rules", "number", "rule"]
def b_need_rules1 : SS := sSeq (sIfS (sOr (sB (sBin opEq (sPk 1) (sC (.int 5)))) (sNot (sB (sCall (callF 1 f_is_rule) (aCons (sVar 2) (aNil)))))) ((fun _ _ => .bad)) (sSkip)) (sForget 1 (sForget 2 (sSkip)))
def g_need_rules2 : Gm := gTup (gsCons (gN 1) (gsCons (gN 2) (gsNil)))
def b_need_rules : SS := sFor (sEn (aCons (sVar 0) (aNil))) (g_need_rules2) (b_need_rules1)
def f_need_rules : Fd := fD n_need_rules b_need_rules
def n_need_world : List Str := ["world", "row", "bars", "rules"]
def b_need_world : SS := sSeq (sAsg (gTup (gsCons (gN 1) (gsCons (gN 2) (gsCons (gN 3) (gsNil))))) (sVar 0)) (sSeq (sExpr (sCall (callF 1 f_need_row) (aCons (sVar 1) (aNil)))) (sSeq (sExpr (sCall (callF 2 f_need_bars) (aCons (sVar 1) (aCons (sVar 2) (aNil))))) (sExpr (sCall (callF 1 f_need_rules) (aCons (sVar 3) (aNil))))))
def f_need_world : Fd := fD n_need_world b_need_world
def n_written : List Str := ["world", "row", "bars", "rules", "signs", "place", "kind", "lines", "near", "many", "beats", "later"]
def g_written1 : Gm := gTup (gsCons (gN 5) (gsCons (gN 6) (gsNil)))
def f_written2 : SE := sBin opAdd (sPk 6) (sIf (sB (sBin opIn (sPk 5) (sPk 2))) (sC (.str [124])) (sC (.str [])))
def b_written3 : SS := sSeq (sApp 7 (sMeth "str" fJoin (sC (.str [32])) (aCons (sLst (aCons (sC (.str [114, 117, 108, 101])) (aCons (sVar 6) (aCons (sVar 8) (aCons (sCall fText (aCons (sPk 9) (aNil))) (aCons (sCall fText (aCons (sPk 10) (aNil))) (aCons (sVar 11) (aNil)))))))) aNil))) (sForget 8 (sForget 9 (sForget 10 (sForget 11 (sSkip)))))
def g_written4 : Gm := gTup (gsCons (gN 6) (gsCons (gN 8) (gsCons (gN 9) (gsCons (gN 10) (gsCons (gN 11) (gsNil))))))
def b_written : SS := sSeq (sExpr (sCall (callF 1 f_need_world) (aCons (sVar 0) (aNil)))) (sSeq (sAsg (gTup (gsCons (gN 1) (gsCons (gN 2) (gsCons (gN 3) (gsNil))))) (sVar 0)) (sSeq (sAsg (gN 4) (sLc [5, 6] (sEn (aCons (sVar 1) (aNil))) (g_written1) (sYes) (f_written2))) (sSeq (sSet 7 (cL (aCons (sMeth "str" fJoin (sC (.str [])) (aCons (sPk 4) aNil)) (aNil)))) (sSeq (sFor (sIt (sVar 3)) (g_written4) (b_written3)) (sRet (sMeth "str" fJoin (sC (.str [10])) (aCons (sPk 7) aNil)))))))
def f_written : Fd := fD n_written b_written
def n_rule_of : List Str := ["words", "word"]
def g_rule_of1 : Gm := gN 1
def f_rule_of2 : SE := sBin opEq (sCall fLen (aCons (sPk 1) (aNil))) (sC (.int 1))
def f_rule_of3 : SE := sBin opIn (sPk 1) (sC (.str [97, 98, 99, 100, 101]))
def f_rule_of4 : SE := sBin opIn (sPk 1) (sC (.str [48, 49, 50, 51, 52, 53, 54, 55, 56, 57]))
def b_rule_of : SS := sSeq (sIfS (sOr (sB (sBin opNe (sCall fLen (aCons (sPk 0) (aNil))) (sC (.int 6)))) (sOr (sB (sBin opNe (sBin opIx (sPk 0) (sC (.int 0))) (sC (.str [114, 117, 108, 101])))) (sNot (sB (sCall fAll (aCons (sLc [1] (sIt (sSl (sPk 0) (oSome (sC (.int 1))) (oNone))) (g_rule_of1) (sYes) (f_rule_of2)) (aNil))))))) (sRet (sC .non)) (sSkip)) (sSeq (sIfS (sNot (sB (sCall fAll (aCons (sLc [1] (sIt (sTup (aCons (sBin opIx (sPk 0) (sC (.int 1))) (aCons (sBin opIx (sPk 0) (sC (.int 2))) (aCons (sBin opIx (sPk 0) (sC (.int 5))) (aNil)))))) (g_rule_of1) (sYes) (f_rule_of3)) (aNil))))) (sRet (sC .non)) (sSkip)) (sSeq (sIfS (sNot (sB (sCall fAll (aCons (sLc [1] (sIt (sSl (sPk 0) (oSome (sC (.int 3))) (oSome (sC (.int 5))))) (g_rule_of1) (sYes) (f_rule_of4)) (aNil))))) (sRet (sC .non)) (sSkip)) (sRet (sTup (aCons (sBin opIx (sPk 0) (sC (.int 1))) (aCons (sBin opIx (sPk 0) (sC (.int 2))) (aCons (sCall fInt (aCons (sBin opIx (sPk 0) (sC (.int 3))) (aNil))) (aCons (sCall fInt (aCons (sBin opIx (sPk 0) (sC (.int 4))) (aNil))) (aCons (sBin opIx (sPk 0) (sC (.int 5))) (aNil))))))))))
def f_rule_of : Fd := fD n_rule_of b_rule_of
def n_read : List Str := ["text", "lines", "row", "bars", "sign", "rules", "number", "line", "rule", "found"]
def b_read1 : SS := sSeq (sIfS (sAnd (sB (sBin opEq (sPk 4) (sC (.str [124])))) (sAnd (sB (sBin opNe (sPk 2) (sC (.str [])))) (sB (sBin opNin (sBin opSub (sCall fLen (aCons (sPk 2) (aNil))) (sC (.int 1))) (sPk 3))))) (sApp 3 (sBin opSub (sCall fLen (aCons (sPk 2) (aNil))) (sC (.int 1)))) (sIfS (sB (sBin opIn (sPk 4) (sC (.str [97, 98, 99, 100, 101])))) (sSet 2 (cV (sBin opAdd (sPk 2) (sPk 4)))) ((fun _ _ => .bad)))) (sForget 4 (sSkip))
def g_read2 : Gm := gN 4
def b_read3 : SS := sSeq (sSet 8 (cV (sCall (callF 1 f_rule_of) (aCons (sMeth "str" fSplit (sPk 7) (aCons (sC (.str [32])) aNil)) (aNil))))) (sSeq (sIfS (sB (sBin opIs (sPk 8) (sC .non))) ((fun _ _ => .bad)) (sSkip)) (sSeq (sApp 5 (sVar 8)) (sForget 6 (sForget 7 (sForget 8 (sSkip))))))
def g_read4 : Gm := gTup (gsCons (gN 6) (gsCons (gN 7) (gsNil)))
def b_read : SS := sSeq (sSet 1 (cV (sMeth "str" fSplit (sPk 0) (aCons (sC (.str [10])) aNil)))) (sSeq (sPar 2 3 (cV (sC (.str []))) (cL (aNil))) (sSeq (sFor (sIt (sBin opIx (sPk 1) (sC (.int 0)))) (g_read2) (b_read1)) (sSeq (sSet 5 (cL (aNil))) (sSeq (sFor (sEn (aCons (sSl (sPk 1) (oSome (sC (.int 1))) (oNone)) (aNil))) (g_read4) (b_read3)) (sSeq (sSet 9 (cV (sTup (aCons (sVar 2) (aCons (sCall fTuple (aCons (sPk 3) (aNil))) (aCons (sCall fTuple (aCons (sPk 5) (aNil))) (aNil))))))) (sSeq (sExpr (sCall (callF 1 f_need_world) (aCons (sVar 9) (aNil)))) (sRet (sVar 9))))))))
def f_read : Fd := fD n_read b_read
def f__law_next : Fd := fNext
def n__law_alike : List Str := ["_law_found", "_law_due", "_law_k"]
def g__law_alike1 : Gm := gN 2
def t__law_alike2 (φ : Fd) : SB := sNot (sB (sCall (callF 2 φ) (aCons (sBin opIx (sPk 0) (sPk 2)) (aCons (sBin opIx (sPk 1) (sPk 2)) (aNil)))))
def f__law_alike3 (φ : Fd) : SE := sVar 2
def b__law_alike (φ : Fd) : SS := sSeq (sIfS (sB (sCall fIsi (aCons (sPk 1) (aCons (sTup (aCons (sC (.cst (.ty "tuple"))) (aCons (sC (.cst (.ty "list"))) (aNil)))) (aNil))))) (sSeq (sIfS (sOr (sNot (sB (sCall fIsi (aCons (sPk 0) (aCons (sTup (aCons (sC (.cst (.ty "tuple"))) (aCons (sC (.cst (.ty "list"))) (aNil)))) (aNil)))))) (sB (sBin opNe (sCall fIsi (aCons (sPk 0) (aCons (sC (.cst (.ty "list"))) (aNil)))) (sCall fIsi (aCons (sPk 1) (aCons (sC (.cst (.ty "list"))) (aNil))))))) (sRet (sC (.bl false))) (sSkip)) (sSeq (sIfS (sB (sBin opNe (sCall fLen (aCons (sPk 0) (aNil))) (sCall fLen (aCons (sPk 1) (aNil))))) (sRet (sC (.bl false))) (sSkip)) (sRet (sBin opEq (sLc [2] (sRg (aCons (sCall fLen (aCons (sPk 1) (aNil))) (aNil))) (g__law_alike1) (t__law_alike2 φ) (f__law_alike3 φ)) (sLst (aNil)))))) (sSkip)) (sSeq (sIfS (sOr (sB (sBin opIs (sPk 1) (sC .non))) (sB (sCall fIsi (aCons (sPk 1) (aCons (sC (.cst (.ty "str"))) (aNil)))))) (sRet (sAndV (sBin opEq (sPk 0) (sPk 1)) (sBin opEq (sCall fIsi (aCons (sPk 0) (aCons (sC (.cst (.ty "str"))) (aNil)))) (sCall fIsi (aCons (sPk 1) (aCons (sC (.cst (.ty "str"))) (aNil))))))) (sSkip)) (sRet (sAndV (sCall fIsi (aCons (sPk 0) (aCons (sC (.cst (.ty "int"))) (aNil)))) (sAndV (sBin opEq (sCall fIsi (aCons (sPk 0) (aCons (sC (.cst (.ty "bool"))) (aNil)))) (sCall fIsi (aCons (sPk 1) (aCons (sC (.cst (.ty "bool"))) (aNil))))) (sBin opEq (sPk 0) (sPk 1))))))
def f__law_alike : Fd := recF (fun φ => fD n__law_alike (b__law_alike φ)) 8
def n__law_rules : List Str := ["_law_h", "_law_kinds", "_law_many", "_law_found", "_law_k", "_law_kind", "_law_near", "_law_later"]
def b__law_rules1 : SS := sStrike [97, 98, 99, 100, 101] 5 6 7 (sCall (callF 2 f__law_next) (aCons (sVar 0) (aCons (sVar 1) (aNil)))) (sBin opIx (sC (.str [97, 98, 99, 100, 101])) (sCall (callF 2 f__law_next) (aCons (sVar 0) (aCons (sVar 1) (aNil))))) (sCall (callF 2 f__law_next) (aCons (sVar 0) (aCons (sCall fMax (aCons (sC (.int 1)) (aCons (sBin opSub (sPk 1) (sC (.int 1))) (aNil)))) (aNil)))) (sSeq (sApp 3 (sTup (aCons (sVar 5) (aCons (sVar 6) (aCons (sBin opAdd (sC (.int 1)) (sBin opDiv (sCall (callF 2 f__law_next) (aCons (sVar 0) (aCons (sC (.int 3)) (aNil)))) (sC (.int 2)))) (aCons (sBin opAdd (sC (.int 1)) (sBin opMul (sCall (callF 2 f__law_next) (aCons (sVar 0) (aCons (sC (.int 4)) (aNil)))) (sCall (callF 2 f__law_next) (aCons (sVar 0) (aCons (sC (.int 2)) (aNil)))))) (aCons (sVar 7) (aNil)))))))) (sForget 4 (sForget 5 (sForget 6 (sForget 7 (sSkip))))))
def g__law_rules2 : Gm := gN 4
def b__law_rules : SS := sSeq (sSet 3 (cL (aNil))) (sSeq (sFor (sRg (aCons (sCall (callF 2 f__law_next) (aCons (sVar 0) (aCons (sBin opAdd (sPk 2) (sC (.int 1))) (aNil)))) (aNil))) (g__law_rules2) (b__law_rules1)) (sRet (sCall fTuple (aCons (sPk 3) (aNil)))))
def f__law_rules : Fd := fD n__law_rules b__law_rules
def n__law_world : List Str := ["_law_h", "_law_jars", "_law_kinds", "_law_many", "_law_row", "_law_k", "_law_bars", "_law_gap"]
def g__law_world1 : Gm := gN 5
def f__law_world2 : SE := sBin opIx (sC (.str [97, 98, 99, 100, 101])) (sCall (callF 2 f__law_next) (aCons (sVar 0) (aCons (sVar 2) (aNil))))
def g__law_world3 : Gm := gN 7
def t__law_world4 : SB := sB (sBin opEq (sCall (callF 2 f__law_next) (aCons (sVar 0) (aCons (sC (.int 5)) (aNil)))) (sC (.int 0)))
def f__law_world5 : SE := sVar 7
def b__law_world : SS := sSeq (sSet 4 (cV (sMeth "str" fJoin (sC (.str [])) (aCons (sLc [5] (sRg (aCons (sBin opAdd (sC (.int 1)) (sCall (callF 2 f__law_next) (aCons (sVar 0) (aCons (sVar 1) (aNil))))) (aNil))) (g__law_world1) (sYes) (f__law_world2)) aNil)))) (sSeq (sSet 6 (cV (sCall fTuple (aCons (sLc [7] (sRg (aCons (sBin opSub (sCall fLen (aCons (sPk 4) (aNil))) (sC (.int 1))) (aNil))) (g__law_world3) (t__law_world4) (f__law_world5)) (aNil))))) (sRet (sTup (aCons (sVar 4) (aCons (sVar 6) (aCons (sCall (callF 3 f__law_rules) (aCons (sVar 0) (aCons (sVar 2) (aCons (sVar 3) (aNil))))) (aNil)))))))
def f__law_world : Fd := fD n__law_world b__law_world
def n__law_text : List Str := ["_law_world_here", "_law_row", "_law_bars", "_law_rules_here", "_law_lines", "_law_k", "_law_rule", "_law_part"]
def g__law_text1 : Gm := gN 5
def f__law_text2 : SE := sBin opAdd (sBin opIx (sPk 1) (sPk 5)) (sBin opMul (sC (.str [124])) (sCall fInt (aCons (sBin opIn (sPk 5) (sPk 2)) (aNil))))
def g__law_text3 : Gm := gN 7
def f__law_text4 : SE := sCall fText (aCons (sPk 7) (aNil))
def b__law_text5 : SS := sSeq (sApp 4 (sMeth "str" fJoin (sC (.str [32])) (aCons (sBin opAdd (sLst (aCons (sC (.str [114, 117, 108, 101])) (aNil))) (sLc [7] (sIt (sVar 6)) (g__law_text3) (sYes) (f__law_text4))) aNil))) (sForget 6 (sSkip))
def g__law_text6 : Gm := gN 6
def b__law_text : SS := sSeq (sAsg (gTup (gsCons (gN 1) (gsCons (gN 2) (gsCons (gN 3) (gsNil))))) (sVar 0)) (sSeq (sSet 4 (cL (aCons (sMeth "str" fJoin (sC (.str [])) (aCons (sLc [5] (sRg (aCons (sCall fLen (aCons (sPk 1) (aNil))) (aNil))) (g__law_text1) (sYes) (f__law_text2)) aNil)) (aNil)))) (sSeq (sFor (sIt (sVar 3)) (g__law_text6) (b__law_text5)) (sRet (sMeth "str" fJoin (sC (.str [10])) (aCons (sPk 4) aNil)))))
def f__law_text : Fd := fD n__law_text b__law_text
def n_law : List Str := ["_law_script", "_law_h", "_law_turn", "_law_world_here", "_law_text_here", "_law_cut", "_law_lines"]
def b_law1 : SS := sSeq (sSet 3 (cV (sCall (callF 4 f__law_world) (aCons (sVar 1) (aCons (sC (.int 12)) (aCons (sC (.int 5)) (aCons (sC (.int 5)) (aNil)))))))) (sSeq (sSet 4 (cV (sCall (callF 1 f__law_text) (aCons (sVar 3) (aNil))))) (sSeq (sIfS (sOr (sB (sBin opNe (sCall (callF 1 f_written) (aCons (sVar 3) (aNil))) (sPk 4))) (sNot (sB (sCall (callF 2 f__law_alike) (aCons (sCall (callF 1 f_read) (aCons (sVar 4) (aNil))) (aCons (sVar 3) (aNil))))))) (sRet (sC (.bl false))) (sSkip)) (sSeq (sSet 5 (cV (sCall (callF 2 f__law_next) (aCons (sVar 1) (aCons (sBin opAdd (sCall fLen (aCons (sBin opIx (sPk 3) (sC (.int 2))) (aNil))) (sC (.int 1))) (aNil)))))) (sSeq (sSet 6 (cV (sSl (sMeth "str" fSplit (sPk 4) (aCons (sC (.str [10])) aNil)) (oNone) (oSome (sBin opAdd (sC (.int 1)) (sPk 5)))))) (sSeq (sIfS (sNot (sB (sCall (callF 2 f__law_alike) (aCons (sCall (callF 1 f_read) (aCons (sMeth "str" fJoin (sC (.str [10])) (aCons (sPk 6) aNil)) (aNil))) (aCons (sBin opAdd (sSl (sPk 3) (oNone) (oSome (sC (.int 2)))) (sTup (aCons (sSl (sBin opIx (sPk 3) (sC (.int 2))) (oNone) (oSome (sPk 5))) (aNil)))) (aNil)))))) (sRet (sC (.bl false))) (sSkip)) (sForget 2 (sForget 3 (sForget 4 (sForget 5 (sForget 6 (sSkip)))))))))))
def g_law2 : Gm := gN 2
def b_law : SS := sSeq (sFor (sRg (aCons (sC (.int 8)) (aNil))) (g_law2) (b_law1)) (sRet (sC (.bl true)))
end Dl
namespace Dl
open PySem PySem.Spec PyProof.Rows L2 TL

/-! ### worlds -/
def K5 (k : Nat) : Prop := k ∈ [97, 98, 99, 100, 101]
structure Rul where
  k : Nat
  n : Nat
  many : Int
  beats : Int
  l : Nat
def encR (q : Rul) : D := .tup [.str [q.k], .str [q.n], .int q.many, .int q.beats, .str [q.l]]
structure RulOk (q : Rul) : Prop where
  k : K5 q.k
  n : K5 q.n
  l : K5 q.l
  ne : q.l ≠ q.k
  m1 : 1 ≤ q.many
  m2 : q.many ≤ 2
  b1 : 1 ≤ q.beats
  b2 : q.beats ≤ 4
structure Wld where
  row : List Nat
  bars : List Nat
  rules : List Rul
def encB (bars : List Nat) : List D := bars.map fun (b : Nat) => .int b
def encW (W : Wld) : D := .tup [.str W.row, .tup (encB W.bars), .tup (W.rules.map encR)]
structure WOk (W : Wld) : Prop where
  ne : W.row ≠ []
  len : W.row.length ≤ 12
  k : ∀ k ∈ W.row, K5 k
  bars : W.bars.Sublist (List.range (W.row.length - 1))
  rl : W.rules.length ≤ 5
  r : ∀ q ∈ W.rules, RulOk q
theorem lim12 {n : Nat} (h : n ≤ 1000) : n ≤ LIM := Nat.le_trans h (by decide)
theorem k5_lt {k : Nat} (h : K5 k) : k < 1114112 := by
  simp only [K5, List.mem_cons, List.not_mem_nil, or_false] at h
  omega
theorem is_kind_ok {k : Nat} (h : K5 k) (m : Sto) : f_is_kind [.str [k]] m = .ok (.bl true) m := by
  simp only [K5, List.mem_cons, List.not_mem_nil, or_false] at h
  rcases h with rfl | rfl | rfl | rfl | rfl <;> rfl
theorem enumL_at {l : List D} {k : Nat} {d : D} (h : (enumL 0 l)[k]? = some d) : ∃ x, l[k]? = some x ∧ d = .tup [.int k, x] := by
  rw [enumL_get] at h
  cases e : l[k]? with
  | none => rw [e] at h; cases h
  | some x =>
    rw [e] at h
    refine ⟨x, rfl, ?_⟩
    have h := (Option.some.inj h).symm
    simpa using h
theorem need_row_ok {W : Wld} (h : WOk W) (m : Sto) : f_need_row [.str W.row] m = .ok .non m := by
  have hz : W.row.length ≤ LIM := lim12 (by have := h.len; omega)
  show ofFl (b_need_row [some (.val (.str W.row)), none, none] m) = _
  unfold b_need_row
  simp only [ev_seq, ev_for]
  rw [ev_En (d := .str W.row) (m := m) rfl]
  simp only [itD_s, bindS_ok]
  rw [forL_same]
  · have hne : W.row ≠ [] := h.ne
    have hk : W.row.all (fun x => decide (x < 1114112)) = true := by
      rw [List.all_eq_true]
      intro x hx
      exact decide_eq_true (k5_lt (h.k x hx))
    simp [hk, hne]
  · intro k d hd
    obtain ⟨x, hx, rfl⟩ := enumL_at hd
    rw [List.getElem?_map] at hx
    cases e : W.row[k]? with
    | none => rw [e] at hx; cases hx
    | some c =>
      rw [e] at hx
      cases hx
      have hk : k < W.row.length := (List.getElem?_eq_some_iff.mp e).1
      have hc : K5 c := h.k c (List.mem_of_getElem? e)
      have hlen := h.len
      refine ⟨_, rfl, ?_⟩
      simp only [K5, List.mem_cons, List.not_mem_nil, or_false] at hc
      have h12 : ((k : Int) == 12) = false := by simp; omega
      simp [b_need_row1, h12, hc]
theorem atI_nat {α : Type} {l : List α} {k : Nat} {x : α} (h : l[k]? = some x) : atI l (k : Int) = some x := by
  have hk := (List.getElem?_eq_some_iff.mp h).1
  unfold atI ixN
  rw [if_pos (by omega), if_pos (by omega)]
  simpa using h
theorem encB_get {bars : List Nat} {k : Nat} {d : D} (h : (encB bars)[k]? = some d) : ∃ g, bars[k]? = some g ∧ d = .int g := by
  unfold encB at h
  rw [List.getElem?_map] at h
  cases e : bars[k]? with
  | none => rw [e] at h; cases h
  | some x => rw [e] at h; exact ⟨x, rfl, (Option.some.inj h).symm⟩
theorem encB_of {bars : List Nat} {k g : Nat} (h : bars[k]? = some g) : (encB bars)[k]? = some (.int g) := by
  unfold encB
  rw [List.getElem?_map, h]
  rfl
theorem bars_lt {W : Wld} (h : WOk W) {g : Nat} (hg : g ∈ W.bars) : g < W.row.length - 1 := List.mem_range.mp (h.bars.subset hg)
theorem bars_inc {W : Wld} (h : WOk W) {i : Nat} {a b : Nat} (ha : W.bars[i]? = some a) (hb : W.bars[i + 1]? = some b) : a < b := by
  have p : W.bars.Pairwise (· < ·) := List.Pairwise.sublist h.bars List.pairwise_lt_range
  obtain ⟨h1, rfl⟩ := List.getElem?_eq_some_iff.mp ha
  obtain ⟨h2, rfl⟩ := List.getElem?_eq_some_iff.mp hb
  exact List.pairwise_iff_getElem.mp p i (i + 1) h1 h2 (Nat.lt_succ_self i)
theorem need_bars_ok {W : Wld} (h : WOk W) (m : Sto) : f_need_bars [.str W.row, .tup (encB W.bars)] m = .ok .non m := by
  have hz : W.row.length ≤ LIM := lim12 (by have := h.len; omega)
  show ofFl (b_need_bars [some (.val (.str W.row)), some (.val (.tup (encB W.bars))), none, none] m) = _
  unfold b_need_bars
  simp only [ev_for]
  rw [ev_En (d := .tup (encB W.bars)) (m := m) rfl]
  simp only [itD_t, bindS_ok]
  rw [forL_same]
  · rfl
  · intro k d hd
    obtain ⟨x, hx, rfl⟩ := enumL_at hd
    obtain ⟨g, hg, rfl⟩ := encB_get hx
    have h1 := bars_lt h (List.mem_of_getElem? hg)
    refine ⟨_, rfl, ?_⟩
    have c1 : decide ((g : Int) < (W.row.length : Int) - 1) = true := decide_eq_true (by omega)
    have c0 : decide ((0 : Int) ≤ (g : Int)) = true := decide_eq_true (by omega)
    cases k with
    | zero => simp [b_need_bars1, hz, c1, c0]
    | succ k =>
      have hl : k < W.bars.length := by
        have := (List.getElem?_eq_some_iff.mp hg).1
        omega
      have h2 := bars_inc h (List.getElem?_eq_getElem hl) hg
      have h3 : atI (encB W.bars) (k : Int) = some (.int (W.bars[k] : Nat)) := atI_nat (encB_of (List.getElem?_eq_getElem hl))
      have c2 : ¬ g ≤ W.bars[k] := by omega
      have c3 : decide ((0 : Int) < ((k + 1 : Nat) : Int)) = true := decide_eq_true (by omega)
      simp [b_need_bars1, hz, c1, c0, c2, c3, h3]
theorem is_rule_ok {q : Rul} (h : RulOk q) (m : Sto) : f_is_rule [encR q] m = .ok (.bl true) m := by
  show ofFl (b_is_rule [some (.val (encR q))] m) = _
  unfold b_is_rule encR
  have e1 := h.m1; have e2 := h.m2; have e3 := h.b1; have e4 := h.b2; have e5 := h.ne
  have k1 := k5_lt h.k; have k2 := k5_lt h.l
  have a1 : atI [D.str [q.k], .str [q.n], .int q.many, .int q.beats, .str [q.l]] 1 = some (.str [q.n]) := rfl
  have a2 : atI [D.str [q.k], .str [q.n], .int q.many, .int q.beats, .str [q.l]] 2 = some (.int q.many) := rfl
  have a3 : atI [D.str [q.k], .str [q.n], .int q.many, .int q.beats, .str [q.l]] 3 = some (.int q.beats) := rfl
  have a4 : atI [D.str [q.k], .str [q.n], .int q.many, .int q.beats, .str [q.l]] 4 = some (.str [q.l]) := rfl
  simp [a1, a2, a3, a4, is_kind_ok h.k, is_kind_ok h.n, is_kind_ok h.l, e1, e2, e3, e4, e5, k1, k2]
theorem need_rules_ok {W : Wld} (h : WOk W) (m : Sto) : f_need_rules [.tup (W.rules.map encR)] m = .ok .non m := by
  show ofFl (b_need_rules [some (.val (.tup (W.rules.map encR))), none, none] m) = _
  unfold b_need_rules
  simp only [ev_for]
  rw [ev_En (d := .tup (W.rules.map encR)) (m := m) rfl]
  simp only [itD_t, bindS_ok]
  rw [forL_same]
  · rfl
  · intro k d hd
    obtain ⟨x, hx, rfl⟩ := enumL_at hd
    rw [List.getElem?_map] at hx
    cases e : W.rules[k]? with
    | none => rw [e] at hx; cases hx
    | some q =>
      rw [e] at hx
      cases hx
      have hk : k < W.rules.length := (List.getElem?_eq_some_iff.mp e).1
      have hq := h.r q (List.mem_of_getElem? e)
      have hlen := h.rl
      refine ⟨_, rfl, ?_⟩
      have h5 : ((k : Int) == 5) = false := by simp; omega
      simp [b_need_rules1, h5, is_rule_ok hq]
theorem need_world_ok {W : Wld} (h : WOk W) (m : Sto) : f_need_world [encW W] m = .ok .non m := by
  show ofFl (b_need_world [some (.val (encW W)), none, none, none] m) = _
  unfold b_need_world encW
  simp [need_row_ok h, need_bars_ok h, need_rules_ok h]
end Dl
namespace Dl
open PySem PySem.Spec PyProof.Rows L2 TL

/-! ### the text of a world -/
def sgL (bars : List Nat) : Nat → List Nat → List (List Nat)
  | _, [] => []
  | i, k :: r => (k :: if i ∈ bars then [124] else []) :: sgL bars (i + 1) r
def ruleW (q : Rul) : List (List Nat) := [[114, 117, 108, 101], [q.k], [q.n], decD q.many, decD q.beats, [q.l]]
def ruleL (q : Rul) : List Nat := joinL [32] (ruleW q)
def line0 (W : Wld) : List Nat := (sgL W.bars 0 W.row).flatten
def linesW (W : Wld) : List (List Nat) := line0 W :: W.rules.map ruleL
def textW (W : Wld) : List Nat := joinL [10] (linesW W)
theorem sgL_length (bars : List Nat) : ∀ (r : List Nat) (i : Nat), (sgL bars i r).length = r.length
  | [], _ => rfl
  | _ :: r, i => by simp [sgL, sgL_length bars r]
theorem sgL_get (bars : List Nat) : ∀ (r : List Nat) (i j : Nat), (sgL bars i r)[j]? = (r[j]?).map fun k => k :: if i + j ∈ bars then [124] else []
  | [], i, j => by simp [sgL]
  | k :: r, i, 0 => by simp [sgL]
  | k :: r, i, j + 1 => by
    have h := sgL_get bars r (i + 1) j
    have e : i + 1 + j = i + (j + 1) := by omega
    rw [e] at h
    simpa [sgL] using h
theorem sgL_sum (bars : List Nat) : ∀ (r : List Nat) (i : Nat), ((sgL bars i r).map List.length).sum ≤ 2 * r.length
  | [], _ => by simp [sgL]
  | k :: r, i => by
    have h := sgL_sum bars r (i + 1)
    have e : (if i ∈ bars then [124] else ([] : List Nat)).length ≤ 1 := by split <;> simp
    simp only [sgL, List.map_cons, List.sum_cons, List.length_cons]
    omega
theorem joinL_nil : ∀ ps : List (List Nat), joinL [] ps = ps.flatten
  | [] => rfl
  | [p] => by simp [joinL]
  | p :: q :: r => by
    show p ++ ([] ++ joinL [] (q :: r)) = _
    rw [joinL_nil (q :: r)]
    rfl
theorem dec_ok {i : Int} (h1 : 1 ≤ i) (h2 : i ≤ 4) : (i = 1 ∧ decD i = [49]) ∨ (i = 2 ∧ decD i = [50]) ∨ (i = 3 ∧ decD i = [51]) ∨ (i = 4 ∧ decD i = [52]) := by
  have : i = 1 ∨ i = 2 ∨ i = 3 ∨ i = 4 := by omega
  rcases this with rfl | rfl | rfl | rfl
  · exact .inl ⟨rfl, by decide +kernel⟩
  · exact .inr (.inl ⟨rfl, by decide +kernel⟩)
  · exact .inr (.inr (.inl ⟨rfl, by decide +kernel⟩))
  · exact .inr (.inr (.inr ⟨rfl, by decide +kernel⟩))
theorem dec_one {i : Int} (h1 : 1 ≤ i) (h2 : i ≤ 4) : ∃ c, decD i = [c] ∧ c ∈ [48, 49, 50, 51, 52, 53, 54, 55, 56, 57] ∧ PySem.intText? ⟨#[c]⟩ = some i := by
  rcases dec_ok h1 h2 with ⟨rfl, e⟩ | ⟨rfl, e⟩ | ⟨rfl, e⟩ | ⟨rfl, e⟩
  · exact ⟨49, e, by decide, by decide +kernel⟩
  · exact ⟨50, e, by decide, by decide +kernel⟩
  · exact ⟨51, e, by decide, by decide +kernel⟩
  · exact ⟨52, e, by decide, by decide +kernel⟩
theorem text_if {i : Int} {m : Sto} : fText [.int i] m = if i.natAbs.log2 < 1920 then .ok (.str (decD i)) m else .bad := rfl
theorem text_int {i : Int} (h1 : 1 ≤ i) (h2 : i ≤ 4) (m : Sto) : fText [.int i] m = .ok (.str (decD i)) m := by
  have : i = 1 ∨ i = 2 ∨ i = 3 ∨ i = 4 := by omega
  rw [text_if]
  rcases this with rfl | rfl | rfl | rfl <;> exact if_pos (by decide +kernel)
theorem ruleL_len {q : Rul} (h : RulOk q) : (ruleL q).length = 14 := by
  obtain ⟨c, e, _⟩ := dec_one h.m1 (Int.le_trans h.m2 (by decide))
  obtain ⟨d, e2, _⟩ := dec_one h.b1 h.b2
  simp [ruleL, ruleW, joinL, e, e2]
theorem line0_len (W : Wld) : (line0 W).length ≤ 2 * W.row.length := by
  unfold line0
  rw [List.length_flatten]
  exact sgL_sum _ _ _
theorem rules_sum {rs : List Rul} (h : ∀ q ∈ rs, RulOk q) : ((rs.map ruleL).map List.length).sum = 14 * rs.length := by
  induction rs with
  | nil => rfl
  | cons q r ih =>
    have := ih fun x hx => h x (List.mem_cons_of_mem _ hx)
    simp only [List.map_cons, List.sum_cons, List.length_cons, ruleL_len (h q (List.mem_cons_self ..)), this]
    omega
theorem lines_sum {W : Wld} (h : WOk W) : ((linesW W).map List.length).sum ≤ 94 := by
  have h1 := line0_len W
  have h2 := rules_sum h.r
  have h3 := h.len
  have h4 := h.rl
  show (line0 W).length + ((W.rules.map ruleL).map List.length).sum ≤ 94
  omega
theorem joinD_ok {a : List Nat} {ps : List (List Nat)} {m : Sto} (h : (ps.map List.length).sum + ps.length * a.length ≤ 1000) : joinD a ps m = .ok (.str (joinL a ps)) m := if_pos (lim12 h)
@[simp] theorem join_l {a : List Nat} {l : List D} {m : Sto} : fJoin (.str a) [.lst l] m = (match strsD l with | some ps => joinD a ps m | none => .bad) := rfl
@[simp] theorem join_t {a : List Nat} {l : List D} {m : Sto} : fJoin (.str a) [.tup l] m = (match strsD l with | some ps => joinD a ps m | none => .bad) := rfl
theorem in_bars (bars : List Nat) (k : Nat) : inD (.int (k : Nat)) (.tup (encB bars)) = some (decide (k ∈ bars)) := by
  have h1 : (encB bars).all flatD = true := by
    rw [List.all_eq_true]
    intro x hx
    obtain ⟨g, _, rfl⟩ := List.mem_map.mp hx
    rfl
  have h2 : ((encB bars).any fun y => eqD y (.int (k : Nat))) = decide (k ∈ bars) := by
    induction bars with
    | nil => rfl
    | cons b r ih =>
      have ih := ih (by
        rw [List.all_eq_true] at h1 ⊢
        exact fun x hx => h1 x (List.mem_cons_of_mem _ hx))
      show (eqD (.int (b : Nat)) (.int (k : Nat)) || (encB r).any fun y => eqD y (.int (k : Nat))) = _
      rw [ih, eqD_int]
      by_cases e : k = b
      · subst e; simp
      · have e2 : ((b : Int) == (k : Int)) = false := by simp; omega
        simp [e2, e]
  show (if flatD (.int (k : Nat)) = true ∧ (encB bars).all flatD = true then some ((encB bars).any fun y => eqD y (.int (k : Nat))) else none) = _
  rw [if_pos ⟨rfl, h1⟩, h2]
theorem in_barsL (bars : List Nat) (k : Nat) : inD (.int (k : Nat)) (.lst (encB bars)) = some (decide (k ∈ bars)) := in_bars bars k
theorem seq_nx {a b : SS} {r r1 : Env} {m m1 : Sto} (h : a r m = .nx r1 m1) : sSeq a b r m = b r1 m1 := by
  rw [ev_seq, h]
/-- what stands at a place of a row's signs -/
theorem str_at {row : List Nat} {k : Nat} {d : D} (h : (row.map fun c => D.str [c])[k]? = some d) : ∃ c, row[k]? = some c ∧ d = .str [c] := by
  rw [List.getElem?_map] at h
  cases e : row[k]? with
  | none => rw [e] at h; cases h
  | some c => rw [e] at h; exact ⟨c, rfl, (Option.some.inj h).symm⟩
theorem written_rules {m : Sto} {c0 c1 c2 c3 c4 c5 : Option Cell} : ∀ (rs : List Rul), (∀ q ∈ rs, RulOk q) → ∀ (acc : List (List Nat)) (x : Option Cell), acc.length + rs.length ≤ 100 →
    ∃ x', forL g_written4 b_written3 (rs.map encR) [c0, c1, c2, c3, c4, c5, x, some (.lst (acc.map D.str)), none, none, none, none] m = .nx [c0, c1, c2, c3, c4, c5, x', some (.lst ((acc ++ rs.map ruleL).map D.str)), none, none, none, none] m
  | [], _, acc, x, _ => ⟨x, by simp [forL_nil]⟩
  | q :: rs, hq, acc, x, hl => by
    have h := hq q (List.mem_cons_self ..)
    have t1 := text_int h.m1 (Int.le_trans h.m2 (by decide)) m
    have t2 := text_int h.b1 h.b2 m
    have h6 : (6 : Nat) ≤ LIM := by decide
    have hlt : acc.length < LIM := Nat.lt_of_le_of_lt (show acc.length ≤ 100 by simp at hl; omega) (by decide)
    have hj : ((ruleW q).map List.length).sum + (ruleW q).length * [32].length ≤ 1000 := by
      obtain ⟨c, e, _⟩ := dec_one h.m1 (Int.le_trans h.m2 (by decide))
      obtain ⟨d, e2, _⟩ := dec_one h.b1 h.b2
      simp [ruleW, e, e2]
    have hj2 : fJoin (.str [32]) [.lst [.str [114, 117, 108, 101], .str [q.k], .str [q.n], .str (decD q.many), .str (decD q.beats), .str [q.l]]] m = .ok (.str (ruleL q)) m := joinD_ok hj
    obtain ⟨x', ih⟩ := written_rules (m := m) (c0 := c0) (c1 := c1) (c2 := c2) (c3 := c3) (c4 := c4) (c5 := c5) rs (fun z hz => hq z (List.mem_cons_of_mem _ hz)) (acc ++ [ruleL q]) (some (.val (.str [q.k]))) (by simp at hl ⊢; omega)
    refine ⟨x', ?_⟩
    rw [List.map_cons, forL_step (r' := [c0, c1, c2, c3, c4, c5, some (.val (.str [q.k])), some (.lst (acc.map D.str)), some (.val (.str [q.n])), some (.val (.int q.many)), some (.val (.int q.beats)), some (.val (.str [q.l]))])
      (r2 := [c0, c1, c2, c3, c4, c5, some (.val (.str [q.k])), some (.lst ((acc ++ [ruleL q]).map D.str)), none, none, none, none]) (m2 := m) rfl (by
        unfold b_written3
        simp only [ev_seq, ev_app, List.getElem?_cons_succ, List.getElem?_cons_zero, ev_meth, ev_c, bindR_ok, kD_str, if_true, ev_cons, ev_lst, ev_var, ev_call, ev_pk, ev_nil, t1, t2, List.length_cons, List.length_nil, if_pos h6, hj2, bindS_ok, List.length_map, if_pos hlt]
        simp), ih]
    simp
theorem written_ok {W : Wld} (h : WOk W) (m : Sto) : f_written [encW W] m = .ok (.str (textW W)) m := by
  have hz : W.row.length ≤ LIM := lim12 (by have := h.len; omega)
  have hl := h.len
  show ofFl (b_written [some (.val (encW W)), none, none, none, none, none, none, none, none, none, none, none] m) = _
  unfold b_written
  -- the signs
  have signs : lcL g_written1 sYes f_written2
      [some (.val (encW W)), some (.val (.str W.row)), some (.val (.tup (encB W.bars))), some (.val (.tup (W.rules.map encR))), none, none, none, none, none, none, none, none] (enumL 0 (W.row.map fun c => D.str [c])) m = .ok ((sgL W.bars 0 W.row).map D.str) m := by
    refine lcL_mapI _ _ (by simp [enumL_length, sgL_length]) fun k d y hd hy => ?_
    obtain ⟨x, hx, rfl⟩ := enumL_at hd
    obtain ⟨c, hc, rfl⟩ := str_at hx
    rw [List.getElem?_map, sgL_get, hc] at hy
    have hy := (Option.some.inj hy).symm
    subst hy
    refine ⟨_, rfl, rfl, ?_⟩
    have hin := in_bars W.bars k
    have h2 : (2 : Nat) ≤ LIM := by decide
    have h1 : (1 : Nat) ≤ LIM := by decide
    by_cases e : k ∈ W.bars
    · simp [f_written2, hin, e, h2, h1]
    · simp [f_written2, hin, e, h2, h1]
  rw [seq_nx (r1 := [some (.val (encW W)), none, none, none, none, none, none, none, none, none, none, none]) (m1 := m) (by simp [need_world_ok h])]
  rw [seq_nx (r1 := [some (.val (encW W)), some (.val (.str W.row)), some (.val (.tup (encB W.bars))), some (.val (.tup (W.rules.map encR))), none, none, none, none, none, none, none, none]) (m1 := m) (by simp [encW])]
  rw [seq_nx (r1 := [some (.val (encW W)), some (.val (.str W.row)), some (.val (.tup (encB W.bars))), some (.val (.tup (W.rules.map encR))), some (.val (.lst ((sgL W.bars 0 W.row).map D.str))), none, none, none, none, none, none, none]) (m1 := m) (by
    simp only [ev_asg, ev_Lc]
    rw [ev_En (d := .str W.row) (m := m) rfl]
    simp only [itD_s, bindR_ok]
    rw [if_pos ⟨by rw [enumL_length, List.length_map]; exact hz, by simp⟩]
    simp only [wipeE_cons, wipeE_nil, List.set_cons_succ, List.set_cons_zero]
    rw [signs]
    simp)]
  have hs : ((sgL W.bars 0 W.row).map List.length).sum + (sgL W.bars 0 W.row).length * ([] : List Nat).length ≤ 1000 := by
    have := sgL_sum W.bars W.row 0
    simp only [List.length_nil, Nat.mul_zero]
    omega
  rw [seq_nx (r1 := [some (.val (encW W)), some (.val (.str W.row)), some (.val (.tup (encB W.bars))), some (.val (.tup (W.rules.map encR))), some (.val (.lst ((sgL W.bars 0 W.row).map D.str))), none, none, some (.lst [.str (line0 W)]), none, none, none, none]) (m1 := m) (by
    have h1 : (1 : Nat) ≤ LIM := by decide
    simp [joinD_ok hs, h1, joinL_nil, line0])]
  have wr := written_rules (m := m) (c0 := some (.val (encW W))) (c1 := some (.val (.str W.row))) (c2 := some (.val (.tup (encB W.bars)))) (c3 := some (.val (.tup (W.rules.map encR)))) (c4 := some (.val (.lst ((sgL W.bars 0 W.row).map D.str)))) (c5 := none) W.rules h.r [line0 W] none (by have := h.rl; simp; omega)
  obtain ⟨x, wr⟩ := wr
  rw [seq_nx (r1 := [some (.val (encW W)), some (.val (.str W.row)), some (.val (.tup (encB W.bars))), some (.val (.tup (W.rules.map encR))), some (.val (.lst ((sgL W.bars 0 W.row).map D.str))), none, x, some (.lst ((linesW W).map D.str)), none, none, none, none]) (m1 := m) (by
    simp only [ev_for, ev_It, ev_var, List.getElem?_cons_succ, List.getElem?_cons_zero, bindR_ok, itD_t, ofO_some, bindS_ok]
    exact wr)]
  have hj : ((linesW W).map List.length).sum + (linesW W).length * [10].length ≤ 1000 := by
    have h1 := lines_sum h
    have h2 := h.rl
    simp only [linesW, List.length_cons, List.length_map] at h1 ⊢
    simp only [List.length_nil]
    omega
  simp [joinD_ok hj, textW]
end Dl
namespace Dl
open PySem PySem.Spec PyProof.Rows L2 TL

/-! ### the law's own text -/
theorem rangeL_get {i : Int} {n k : Nat} {d : D} (h : (rangeL i n)[k]? = some d) : k < n ∧ d = .int (i + k) := by
  unfold rangeL at h
  rw [List.getElem?_map] at h
  cases e : (List.range n)[k]? with
  | none => rw [e] at h; cases h
  | some x =>
    rw [e] at h
    have h := (Option.some.inj h).symm
    have hk : k < n := by
      have := (List.getElem?_eq_some_iff.mp e).1
      simpa using this
    rw [List.getElem?_range hk] at e
    cases e
    exact ⟨hk, h⟩
theorem rangeL_length {i : Int} {n : Nat} : (rangeL i n).length = n := by simp [rangeL]
theorem ix_str {z : List Nat} {k c : Nat} (h : z[k]? = some c) (hz : z.length ≤ LIM) : ixD (.str z) (.int (k : Nat)) = some (.str [c]) := by
  show (if z.length ≤ LIM then (atI z (k : Nat)).map fun c => D.str [c] else none) = _
  rw [if_pos hz, atI_nat h]
  rfl
theorem text_rules {m : Sto} {c0 c1 c2 c3 c5 : Option Cell} : ∀ (rs : List Rul), (∀ q ∈ rs, RulOk q) → ∀ (acc : List (List Nat)), acc.length + rs.length ≤ 100 →
    forL g__law_text6 b__law_text5 (rs.map encR) [c0, c1, c2, c3, some (.lst (acc.map D.str)), c5, none, none] m = .nx [c0, c1, c2, c3, some (.lst ((acc ++ rs.map ruleL).map D.str)), c5, none, none] m
  | [], _, acc, _ => by simp [forL_nil]
  | q :: rs, hq, acc, hl => by
    have h := hq q (List.mem_cons_self ..)
    have t1 := text_int h.m1 (Int.le_trans h.m2 (by decide)) m
    have t2 := text_int h.b1 h.b2 m
    have h6 : (6 : Nat) ≤ LIM := by decide
    have h5 : (5 : Nat) ≤ LIM := by decide
    have h1 : (1 : Nat) ≤ LIM := by decide
    have hlt : acc.length < LIM := Nat.lt_of_le_of_lt (show acc.length ≤ 100 by simp at hl; omega) (by decide)
    have hj : ((ruleW q).map List.length).sum + (ruleW q).length * [32].length ≤ 1000 := by
      obtain ⟨c, e, _⟩ := dec_one h.m1 (Int.le_trans h.m2 (by decide))
      obtain ⟨d, e2, _⟩ := dec_one h.b1 h.b2
      simp [ruleW, e, e2]
    have hj2 : fJoin (.str [32]) [.lst [.str [114, 117, 108, 101], .str [q.k], .str [q.n], .str (decD q.many), .str (decD q.beats), .str [q.l]]] m = .ok (.str (ruleL q)) m := joinD_ok hj
    have hc : lcL g__law_text3 sYes f__law_text4 [c0, c1, c2, c3, some (.lst (acc.map D.str)), c5, some (.val (encR q)), none] [.str [q.k], .str [q.n], .int q.many, .int q.beats, .str [q.l]] m = .ok [.str [q.k], .str [q.n], .str (decD q.many), .str (decD q.beats), .str [q.l]] m := by
      simp [lcL, g__law_text3, f__law_text4, t1, t2]
    have ih := text_rules (m := m) (c0 := c0) (c1 := c1) (c2 := c2) (c3 := c3) (c5 := c5) rs (fun z hz => hq z (List.mem_cons_of_mem _ hz)) (acc ++ [ruleL q]) (by simp at hl ⊢; omega)
    rw [List.map_cons, forL_step (r' := [c0, c1, c2, c3, some (.lst (acc.map D.str)), c5, some (.val (encR q)), none])
      (r2 := [c0, c1, c2, c3, some (.lst ((acc ++ [ruleL q]).map D.str)), c5, none, none]) (m2 := m) rfl (by
        unfold b__law_text5
        have e : itD (encR q) = some [.str [q.k], .str [q.n], .int q.many, .int q.beats, .str [q.l]] := rfl
        simp [e, h1, h5, h6, hc, hj2, hlt]), ih]
    simp
theorem text_ok {W : Wld} (h : WOk W) (m : Sto) : f__law_text [encW W] m = .ok (.str (textW W)) m := by
  have hz : W.row.length ≤ LIM := lim12 (by have := h.len; omega)
  have hl := h.len
  show ofFl (b__law_text [some (.val (encW W)), none, none, none, none, none, none, none] m) = _
  unfold b__law_text
  have signs : lcL g__law_text1 sYes f__law_text2
      [some (.val (encW W)), some (.val (.str W.row)), some (.val (.tup (encB W.bars))), some (.val (.tup (W.rules.map encR))), none, none, none, none] (rangeL 0 W.row.length) m = .ok ((sgL W.bars 0 W.row).map D.str) m := by
    refine lcL_mapI _ _ (by simp [rangeL_length, sgL_length]) fun k d y hd hy => ?_
    obtain ⟨hk, rfl⟩ := rangeL_get hd
    have hc := List.getElem?_eq_getElem hk
    rw [List.getElem?_map, sgL_get, hc] at hy
    have hy := (Option.some.inj hy).symm
    subst hy
    rw [Int.zero_add]
    refine ⟨_, rfl, rfl, ?_⟩
    have hin := in_bars W.bars k
    have hix := ix_str hc hz
    have h2 : (2 : Nat) ≤ LIM := by decide
    have h1 : (1 : Nat) ≤ LIM := by decide
    have e1 : opMul (.str [124]) (.int 1) m = .ok (.str [124]) m := by
      exact (if_pos (by decide) : (if Sml 1 [124].length then R.ok (D.str (List.replicate (1 : Int).toNat [124]).flatten) m else R.bad) = _)
    have e0 : opMul (.str [124]) (.int 0) m = .ok (.str []) m := by
      exact (if_pos (by decide) : (if Sml 0 [124].length then R.ok (D.str (List.replicate (0 : Int).toNat [124]).flatten) m else R.bad) = _)
    by_cases e : k ∈ W.bars
    · simp [f__law_text2, hin, hix, e, h2, h1, e1]
    · simp [f__law_text2, hin, hix, e, h2, h1, e0]
  rw [seq_nx (r1 := [some (.val (encW W)), some (.val (.str W.row)), some (.val (.tup (encB W.bars))), some (.val (.tup (W.rules.map encR))), none, none, none, none]) (m1 := m) (by simp [encW])]
  have hs : ((sgL W.bars 0 W.row).map List.length).sum + (sgL W.bars 0 W.row).length * ([] : List Nat).length ≤ 1000 := by
    have := sgL_sum W.bars W.row 0
    simp only [List.length_nil, Nat.mul_zero]
    omega
  rw [seq_nx (r1 := [some (.val (encW W)), some (.val (.str W.row)), some (.val (.tup (encB W.bars))), some (.val (.tup (W.rules.map encR))), some (.lst [.str (line0 W)]), none, none, none]) (m1 := m) (by
    have h1 : (1 : Nat) ≤ LIM := by decide
    have hin : inR (W.row.length : Int) = true := decide_eq_true (by omega)
    simp only [ev_set, ev_cL, ev_cons, ev_meth, ev_c, bindR_ok, kD_str, if_true, ev_Lc]
    rw [ev_Rg (i := W.row.length) (m' := m) (by simp [hz])]
    rw [if_pos hin]
    simp only [bindR_ok, Int.toNat_natCast, rangeL_length]
    rw [if_pos ⟨hz, by simp⟩]
    simp only [wipeE_cons, wipeE_nil, List.set_cons_succ, List.set_cons_zero]
    rw [signs]
    simp [joinD_ok hs, h1, joinL_nil, line0])]
  have tr := text_rules (m := m) (c0 := some (.val (encW W))) (c1 := some (.val (.str W.row))) (c2 := some (.val (.tup (encB W.bars)))) (c3 := some (.val (.tup (W.rules.map encR)))) (c5 := none) W.rules h.r [line0 W] (by have := h.rl; simp; omega)
  rw [seq_nx (r1 := [some (.val (encW W)), some (.val (.str W.row)), some (.val (.tup (encB W.bars))), some (.val (.tup (W.rules.map encR))), some (.lst ((linesW W).map D.str)), none, none, none]) (m1 := m) (by
    simp only [ev_for, ev_It, ev_var, List.getElem?_cons_succ, List.getElem?_cons_zero, bindR_ok, itD_t, ofO_some, bindS_ok]
    exact tr)]
  have hj : ((linesW W).map List.length).sum + (linesW W).length * [10].length ≤ 1000 := by
    have h1 := lines_sum h
    have h2 := h.rl
    simp only [linesW, List.length_cons, List.length_map] at h1 ⊢
    simp only [List.length_nil]
    omega
  simp [joinD_ok hj, textW]

/-! ### a rule read -/
theorem rule_of_ok {q : Rul} (h : RulOk q) (m : Sto) : f_rule_of [.lst ((ruleW q).map D.str)] m = .ok (encR q) m := by
  obtain ⟨c, e, hc, ec⟩ := dec_one h.m1 (Int.le_trans h.m2 (by decide))
  obtain ⟨d, e2, hd, ed⟩ := dec_one h.b1 h.b2
  have hk := h.k; have hn := h.n; have hl := h.l
  have h1 : (1 : Nat) ≤ LIM := by decide
  have h3 : (3 : Nat) ≤ LIM := by decide
  have h5 : (5 : Nat) ≤ LIM := by decide
  have h2 : (2 : Nat) ≤ LIM := by decide
  have a1 : ∀ {a b c d e f : D}, atI [a, b, c, d, e, f] 1 = some b := rfl
  have a2 : ∀ {a b c d e f : D}, atI [a, b, c, d, e, f] 2 = some c := rfl
  have a3 : ∀ {a b c d e f : D}, atI [a, b, c, d, e, f] 3 = some d := rfl
  have a4 : ∀ {a b c d e f : D}, atI [a, b, c, d, e, f] 4 = some e := rfl
  have a5 : ∀ {a b c d e f : D}, atI [a, b, c, d, e, f] 5 = some f := rfl
  have c1 : ∀ {a b c d e f : D}, cutL [a, b, c, d, e, f] (some 1) none = [b, c, d, e, f] := rfl
  have c3 : ∀ {a b c d e f : D}, cutL [a, b, c, d, e, f] (some 3) (some 5) = [d, e] := rfl
  have i1 : fInt [.str [c]] m = .ok (.int q.many) m := by
    show (if [c].length ≤ 640 then ofO ((PySem.intText? ⟨[c].toArray⟩).map D.int) m else .bad) = _
    rw [if_pos (by simp)]
    show ofO ((PySem.intText? ⟨#[c]⟩).map D.int) m = _
    rw [ec]
    rfl
  have i2 : fInt [.str [d]] m = .ok (.int q.beats) m := by
    show (if [d].length ≤ 640 then ofO ((PySem.intText? ⟨[d].toArray⟩).map D.int) m else .bad) = _
    rw [if_pos (by simp)]
    show ofO ((PySem.intText? ⟨#[d]⟩).map D.int) m = _
    rw [ed]
    rfl
  have al : ∀ {l : List D}, fAll [.lst l] m = ofO ((blsOf l).map fun ns => D.bl (ns.all id)) m := rfl
  have b1 : ∀ {b : Bool} {l : List D}, blsOf (.bl b :: l) = (blsOf l).map (b :: ·) := rfl
  have b0 : blsOf [] = some [] := rfl
  show ofFl (b_rule_of [some (.val (.lst ((ruleW q).map D.str))), none] m) = _
  unfold b_rule_of
  rw [ruleW, e, e2]
  simp only [K5, List.mem_cons, List.not_mem_nil, or_false] at hk hn hl hc hd
  simp [-not_or, hk, hn, hl, hc, hd, a1, a2, a3, a4, a5, c1, c3, h1, h2, h3, h5, lcL, g_rule_of1, f_rule_of2, f_rule_of3, f_rule_of4, al, b1, b0, i1, i2, encR]
end Dl
namespace Dl
open PySem PySem.Spec PyProof.Rows L2 TL

/-! ### a text read -/
theorem filter_sub {s l : List Nat} (h : l.Sublist s) (nd : s.Nodup) : s.filter (fun x => decide (x ∈ l)) = l := by
  induction h with
  | slnil => rfl
  | @cons l₁ l₂ a h ih =>
    have nd' := (List.nodup_cons.mp nd)
    have ha : a ∉ l₁ := fun z => nd'.1 (h.subset z)
    rw [List.filter_cons_of_neg (by simpa using ha)]
    exact ih nd'.2
  | @cons_cons l₁ l₂ a h ih =>
    have nd' := (List.nodup_cons.mp nd)
    rw [List.filter_cons_of_pos (by simp)]
    congr 1
    have e := ih nd'.2
    calc l₂.filter (fun x => decide (x ∈ a :: l₁)) = l₂.filter (fun x => decide (x ∈ l₁)) := by
          refine List.filter_congr fun x hx => ?_
          have hne : x ≠ a := fun z => nd'.1 (z ▸ hx)
          simp [hne]
      _ = l₁ := e
def envR (c0 c1 : Option Cell) (row bs : List Nat) (c5 : Option Cell) : Env := [c0, c1, some (.val (.str row)), some (.lst (encB bs)), none, c5, none, none, none, none]
theorem read_kind {m : Sto} {c0 c1 c5 : Option Cell} {row bs : List Nat} {k : Nat} (hk : K5 k) (hl : row.length ≤ 12) : b_read1 ((envR c0 c1 row bs c5).set 4 (some (.val (.str [k])))) m = .nx (envR c0 c1 (row ++ [k]) bs c5) m := by
  have h13 : row.length + 1 ≤ LIM := lim12 (by omega)
  have hlt := k5_lt hk
  have hne : k ≠ 124 := fun e => by subst e; revert hk; unfold K5; decide
  simp only [K5, List.mem_cons, List.not_mem_nil, or_false] at hk
  simp [b_read1, envR, hlt, hne, hk, h13, -not_or]
theorem read_bar {m : Sto} {c0 c1 c5 : Option Cell} {row bs : List Nat} {i : Nat} (hr : ∀ k ∈ row, K5 k) (hl : row.length ≤ 13) (hi : row.length = i + 1) (hb : i ∉ bs) (hbl : bs.length ≤ 12) : b_read1 ((envR c0 c1 row bs c5).set 4 (some (.val (.str [124])))) m = .nx (envR c0 c1 row (bs ++ [i]) c5) m := by
  have hz : row.length ≤ LIM := lim12 (by omega)
  have hz2 : i + 1 ≤ LIM := by rw [← hi]; exact hz
  have hbl2 : bs.length < LIM := Nat.lt_of_le_of_lt hbl (by decide)
  have hne : row ≠ [] := fun e => by rw [e] at hi; simp at hi
  have hok : row.all (fun x => decide (x < 1114112)) = true := by
    rw [List.all_eq_true]
    exact fun x hx => decide_eq_true (k5_lt (hr x hx))
  have hok2 : ∀ x ∈ row, x < 1114112 := fun x hx => k5_lt (hr x hx)
  have hin := in_barsL bs i
  have e1 : ((i + 1 : Nat) : Int) - 1 = (i : Int) := by omega
  have hbe : (encB bs).length = bs.length := by simp [encB]
  have hie : row.isEmpty = false := by
    cases row with
    | nil => exact absurd rfl hne
    | cons _ _ => rfl
  simp [b_read1, envR, hz2, hne, hi, e1, hin, hb, hbe, hbl2]
  rw [if_pos hok2, hie]
  simp [encB]
theorem read_signs {m : Sto} {c0 c1 c5 : Option Cell} {bars : List Nat} : ∀ (rest row bs : List Nat), (∀ k ∈ row, K5 k) → (∀ k ∈ rest, K5 k) → row.length + rest.length ≤ 12 → (∀ b ∈ bs, b < row.length) → bs.length ≤ row.length →
    forL g_read2 b_read1 (((sgL bars row.length rest).flatten).map fun c => D.str [c]) (envR c0 c1 row bs c5) m = .nx (envR c0 c1 (row ++ rest) (bs ++ (List.range' row.length rest.length).filter fun x => decide (x ∈ bars)) c5) m
  | [], row, bs, _, _, _, _, _ => by simp [sgL, forL_nil]
  | k :: rest, row, bs, hr, hk, hl, hb, hbl => by
    simp only [List.length_cons] at hl
    have k1 := hk k (List.mem_cons_self ..)
    have step1 := forL_step (g := g_read2) (b := b_read1) (d := .str [k]) (l := ((if row.length ∈ bars then [124] else []) ++ (sgL bars (row.length + 1) rest).flatten).map fun c => D.str [c]) (r := envR c0 c1 row bs c5) (r' := (envR c0 c1 row bs c5).set 4 (some (.val (.str [k])))) (m := m) rfl (read_kind k1 (by omega))
    have e0 : ((sgL bars row.length (k :: rest)).flatten).map (fun c => D.str [c]) = D.str [k] :: (((if row.length ∈ bars then [124] else []) ++ (sgL bars (row.length + 1) rest).flatten).map fun c => D.str [c]) := by
      simp [sgL]
    rw [e0, step1]
    have hr' : ∀ x ∈ row ++ [k], K5 x := fun x hx => (List.mem_append.mp hx).elim (hr x) fun z => by rw [List.mem_singleton.mp z]; exact k1
    have hlen : (row ++ [k]).length = row.length + 1 := by simp
    have rng : List.range' row.length (rest.length + 1) = row.length :: List.range' (row.length + 1) rest.length := by rw [List.range'_succ]
    by_cases e : row.length ∈ bars
    · rw [if_pos e]
      have hnb : row.length ∉ bs := fun z => Nat.lt_irrefl _ (hb _ z)
      have step2 := forL_step (g := g_read2) (b := b_read1) (d := .str [124]) (l := ((sgL bars (row.length + 1) rest).flatten).map fun c => D.str [c]) (r := envR c0 c1 (row ++ [k]) bs c5) (r' := (envR c0 c1 (row ++ [k]) bs c5).set 4 (some (.val (.str [124])))) (m := m) rfl (read_bar hr' (by omega) hlen hnb (by omega))
      show forL g_read2 b_read1 (D.str [124] :: ((sgL bars (row.length + 1) rest).flatten).map fun c => D.str [c]) _ _ = _
      rw [step2, ← hlen, read_signs rest (row ++ [k]) (bs ++ [row.length]) hr' (fun x hx => hk x (List.mem_cons_of_mem _ hx)) (by omega) (fun b hb' => by
        rcases List.mem_append.mp hb' with z | z
        · have := hb b z; omega
        · have := List.mem_singleton.mp z; omega) (by simp; omega)]
      rw [hlen, List.length_cons, rng, List.filter_cons_of_pos (by simpa using e)]
      simp
    · rw [if_neg e, List.nil_append, ← hlen, read_signs rest (row ++ [k]) bs hr' (fun x hx => hk x (List.mem_cons_of_mem _ hx)) (by omega) (fun b hb' => by have := hb b hb'; omega) (by omega)]
      rw [hlen, List.length_cons, rng, List.filter_cons_of_neg (by simpa using e)]
      simp
theorem k5_ne {k n : Nat} (h : K5 k) (hn : n < 97) : n ≠ k := fun e => by
  simp only [K5, List.mem_cons, List.not_mem_nil, or_false] at h
  omega
theorem rule_split {q : Rul} (h : RulOk q) : spl [32] 0 [] (ruleL q) = ruleW q := by
  refine spl_join (by simp [ruleW]) fun p hp => ?_
  obtain ⟨c, e, hc, _⟩ := dec_one h.m1 (Int.le_trans h.m2 (by decide))
  obtain ⟨d, e2, hd, _⟩ := dec_one h.b1 h.b2
  rw [ruleW, e, e2] at hp
  simp only [List.mem_cons, List.not_mem_nil, or_false] at hp hc hd
  have n1 := k5_ne (n := 32) h.k (by decide)
  have n2 := k5_ne (n := 32) h.n (by decide)
  have n3 := k5_ne (n := 32) h.l (by decide)
  rcases hp with rfl | rfl | rfl | rfl | rfl | rfl
  · decide
  · simpa using n1
  · simpa using n2
  · simp; omega
  · simp; omega
  · simpa using n3
theorem rule_no10 {q : Rul} (h : RulOk q) : 10 ∉ ruleL q := by
  obtain ⟨c, e, hc, _⟩ := dec_one h.m1 (Int.le_trans h.m2 (by decide))
  obtain ⟨d, e2, hd, _⟩ := dec_one h.b1 h.b2
  have n1 := k5_ne (n := 10) h.k (by decide)
  have n2 := k5_ne (n := 10) h.n (by decide)
  have n3 := k5_ne (n := 10) h.l (by decide)
  simp only [List.mem_cons, List.not_mem_nil, or_false] at hc hd
  simp [ruleL, ruleW, joinL, e, e2, n1, n2, n3]
  omega
theorem sgL_no {bars : List Nat} {n : Nat} (hn : n < 97) : ∀ (r : List Nat) (i : Nat), (∀ k ∈ r, K5 k) → n ∉ (sgL bars i r).flatten
  | [], _, _ => by simp [sgL]
  | k :: r, i, h => by
    have ih := sgL_no (bars := bars) hn r (i + 1) fun x hx => h x (List.mem_cons_of_mem _ hx)
    have n1 := k5_ne (h k (List.mem_cons_self ..)) hn
    have n2 : n ≠ 124 := by omega
    have n3 : n ∉ (if i ∈ bars then [124] else ([] : List Nat)) := by split <;> simp [n2]
    simp only [sgL, List.flatten_cons, List.mem_append, List.mem_cons, not_or]
    exact ⟨⟨n1, n3⟩, ih⟩
theorem lines_split {W : Wld} (h : WOk W) : spl [10] 0 [] (textW W) = linesW W := by
  refine spl_join (by simp [linesW]) fun p hp => ?_
  rcases List.mem_cons.mp hp with rfl | hp
  · exact sgL_no (by decide) _ _ h.k
  · obtain ⟨q, hq, rfl⟩ := List.mem_map.mp hp
    exact rule_no10 (h.r q hq)
theorem joinL_len (a : List Nat) : ∀ ps : List (List Nat), (joinL a ps).length ≤ (ps.map List.length).sum + ps.length * a.length
  | [] => by simp [joinL]
  | [p] => by simp [joinL]
  | p :: q :: r => by
    have ih := joinL_len a (q :: r)
    show (p ++ (a ++ joinL a (q :: r))).length ≤ _
    simp only [List.length_append, List.map_cons, List.sum_cons, List.length_cons] at ih ⊢
    rw [Nat.succ_mul]
    omega
theorem text_len {W : Wld} (h : WOk W) : (textW W).length ≤ 200 := by
  have h1 := joinL_len [10] (linesW W)
  have h2 := lines_sum h
  have h3 := h.rl
  have h4 : (linesW W).length = W.rules.length + 1 := by simp [linesW]
  unfold textW
  simp only [List.length_cons, List.length_nil] at h1
  omega
theorem split_text {W : Wld} (h : WOk W) (m : Sto) : fSplit (.str (textW W)) [.str [10]] m = .ok (.lst ((linesW W).map D.str)) m := by
  show (if (textW W).length + 2 ≤ LIM ∧ 10 < 256 then R.ok (D.lst ((spl [10] 0 [] (textW W)).map D.str)) m else .bad) = _
  rw [if_pos ⟨lim12 (by have := text_len h; omega), by decide⟩, lines_split h]
theorem split_rule {q : Rul} (h : RulOk q) (m : Sto) : fSplit (.str (ruleL q)) [.str [32]] m = .ok (.lst ((ruleW q).map D.str)) m := by
  show (if (ruleL q).length + 2 ≤ LIM ∧ 32 < 256 then R.ok (D.lst ((spl [32] 0 [] (ruleL q)).map D.str)) m else .bad) = _
  rw [if_pos ⟨lim12 (by rw [ruleL_len h]; omega), by decide⟩, rule_split h]
theorem read_rules {m : Sto} {c0 c1 c2 c3 : Option Cell} : ∀ (rs : List Rul) (j : Nat), (∀ q ∈ rs, RulOk q) → ∀ (acc : List D), acc.length + rs.length ≤ 100 →
    forL g_read4 b_read3 (enumL j ((rs.map ruleL).map D.str)) [c0, c1, c2, c3, none, some (.lst acc), none, none, none, none] m = .nx [c0, c1, c2, c3, none, some (.lst (acc ++ rs.map encR)), none, none, none, none] m
  | [], _, _, acc, _ => by simp [enumL, forL_nil]
  | q :: rs, j, hq, acc, hl => by
    have h := hq q (List.mem_cons_self ..)
    simp only [List.length_cons] at hl
    have hlt : acc.length < LIM := Nat.lt_of_le_of_lt (show acc.length ≤ 100 by omega) (by decide)
    have hro := rule_of_ok h m
    have hsp := split_rule h m
    have hni : isNonD (encR q) = some false := rfl
    rw [List.map_cons, List.map_cons]
    show forL g_read4 b_read3 (.tup [.int (j : Nat), .str (ruleL q)] :: enumL (j + 1) ((rs.map ruleL).map D.str)) _ m = _
    rw [forL_step (r' := [c0, c1, c2, c3, none, some (.lst acc), some (.val (.int (j : Nat))), some (.val (.str (ruleL q))), none, none]) (r2 := [c0, c1, c2, c3, none, some (.lst (acc ++ [encR q])), none, none, none, none]) (m2 := m) rfl (by
      simp [b_read3, hsp, hro, hni, hlt]), read_rules rs (j + 1) (fun z hz => hq z (List.mem_cons_of_mem _ hz)) (acc ++ [encR q]) (by simp; omega)]
    simp
theorem cut_tail {α : Type} {a : α} {l : List α} : cutL (a :: l) (some 1) none = l := by
  have h1 : HT.sIx (a :: l).length 0 (some 1) = 1 := by
    simp [HT.sIx]
  have h2 : HT.sIx (a :: l).length (a :: l).length none = (a :: l).length := rfl
  unfold cutL
  rw [h1, h2]
  simp
theorem read_ok {W : Wld} (h : WOk W) (m : Sto) : f_read [.str (textW W)] m = .ok (encW W) m := by
  have hl := h.len
  show ofFl (b_read [some (.val (.str (textW W))), none, none, none, none, none, none, none, none, none] m) = _
  unfold b_read
  rw [seq_nx (r1 := [some (.val (.str (textW W))), some (.val (.lst ((linesW W).map D.str))), none, none, none, none, none, none, none, none]) (m1 := m) (by
    simp [split_text h])]
  rw [seq_nx (r1 := envR (some (.val (.str (textW W)))) (some (.val (.lst ((linesW W).map D.str)))) [] [] none) (m1 := m) (by
    have h0 : (0 : Nat) ≤ LIM := Nat.zero_le _
    simp [envR, encB, h0])]
  have rs := read_signs (m := m) (c0 := some (.val (.str (textW W)))) (c1 := some (.val (.lst ((linesW W).map D.str)))) (c5 := none) (bars := W.bars) W.row [] [] (by simp) h.k (by simpa using hl) (by simp) (by simp)
  have eb : (List.range' 0 W.row.length).filter (fun x => decide (x ∈ W.bars)) = W.bars := by
    rw [← List.range_eq_range']
    exact filter_sub (h.bars.trans (List.range_sublist.mpr (Nat.sub_le _ _))) List.nodup_range
  simp only [List.nil_append, List.length_nil, eb] at rs
  rw [seq_nx (r1 := envR (some (.val (.str (textW W)))) (some (.val (.lst ((linesW W).map D.str)))) W.row W.bars none) (m1 := m) (by
    simp only [ev_for, ev_It, ev_bin, envR, ev_pk, List.getElem?_cons_succ, List.getElem?_cons_zero, bindR_ok, ev_c, ev_ix, ix_l, linesW, List.map_cons, atI_zero, ofO_some, itD_s, bindS_ok]
    simp only [linesW, envR, List.map_cons, line0] at rs
    exact rs)]
  rw [seq_nx (r1 := envR (some (.val (.str (textW W)))) (some (.val (.lst ((linesW W).map D.str)))) W.row W.bars (some (.lst []))) (m1 := m) (by
    have h0 : (0 : Nat) ≤ LIM := Nat.zero_le _
    simp [envR, h0])]
  have rr := read_rules (m := m) (c0 := some (.val (.str (textW W)))) (c1 := some (.val (.lst ((linesW W).map D.str)))) (c2 := some (.val (.str W.row))) (c3 := some (.lst (encB W.bars))) W.rules 0 h.r [] (by have := h.rl; simp; omega)
  rw [seq_nx (r1 := envR (some (.val (.str (textW W)))) (some (.val (.lst ((linesW W).map D.str)))) W.row W.bars (some (.lst (W.rules.map encR)))) (m1 := m) (by
    simp only [ev_for]
    rw [ev_En (d := .lst ((W.rules.map ruleL).map D.str)) (m := m) (by
      simp [envR, linesW, cut_tail])]
    simp only [itD_l, bindS_ok, envR]
    simpa using rr)]
  have h3 : (3 : Nat) ≤ LIM := by decide
  have nw := need_world_ok h m
  simp only [encW] at nw
  simp [envR, h3, nw, encW]
end Dl
namespace Dl
open PySem PySem.Spec PyProof.Rows L2 TL

/-! ### alike -/
theorem isi1 {d : D} {a n : String} {b : Bool} {m : Sto} (h : tyD d = some a) (k : L2.kitB a n = some b) : fIsi [d, .cst (.ty n)] m = .ok (.bl b) m := by
  show (match tyD d with | some a => ofO ((L2.kitB a n).map D.bl) m | none => .bad) = _
  rw [h]
  dsimp only
  rw [k]
  rfl
theorem isi2 {d : D} {a n1 n2 : String} {b : Bool} {m : Sto} (h : tyD d = some a) (k : isiAny a [n1, n2] = some b) : fIsi [d, .tup [.cst (.ty n1), .cst (.ty n2)]] m = .ok (.bl b) m := by
  show (match tyD d, tyNs [.cst (.ty n1), .cst (.ty n2)] with | some a, some ns => ofO ((isiAny a ns).map D.bl) m | _, _ => .bad) = _
  rw [h, show tyNs [.cst (.ty n1), .cst (.ty n2)] = some [n1, n2] from rfl]
  dsimp only
  rw [k]
  rfl
theorem okN_up : ∀ (n : Nat) (d : D), okN n d = true → ∀ k, n ≤ k → okN k d = true
  | n, .non, _, k, _ => by simp
  | n, .bl _, _, k, _ => by simp
  | n, .int _, _, k, _ => by simp
  | n, .str s, h, k, _ => by simpa using h
  | 0, .tup l, h, k, _ => by cases h
  | 0, .lst l, h, k, _ => by cases h
  | n + 1, .tup l, h, k, hk => by
    obtain ⟨j, rfl⟩ : ∃ j, k = j + 1 := ⟨k - 1, by omega⟩
    rw [okN_tup, List.all_eq_true] at h ⊢
    exact fun x hx => okN_up n x (h x hx) j (by omega)
  | n + 1, .lst l, h, k, hk => by
    obtain ⟨j, rfl⟩ : ∃ j, k = j + 1 := ⟨k - 1, by omega⟩
    rw [okN_lst, List.all_eq_true] at h ⊢
    exact fun x hx => okN_up n x (h x hx) j (by omega)
  | n, .dct _ _, h, k, _ => by cases n <;> cases h
  | n, .obj _, h, k, _ => by cases n <;> cases h
  | n, .cst _, h, k, _ => by cases n <;> cases h
def alikeB : Fd → Fd := fun φ => fD n__law_alike (b__law_alike φ)
theorem alike_comp {φ : Fd} {l : List D} {c0 c1 : Option Cell} {m : Sto} (hl : l.length ≤ LIM) (hr : inR l.length = true) (hφ : ∀ d ∈ l, φ [d, d] m = .ok (.bl true) m) (h0 : ∀ i : Int, sBin opIx (sPk 0) (sPk 2) [c0, c1, some (.val (.int i))] m = ofO (atI l i) m) (h1 : ∀ i : Int, sBin opIx (sPk 1) (sPk 2) [c0, c1, some (.val (.int i))] m = ofO (atI l i) m) :
    lcL g__law_alike1 (t__law_alike2 φ) (f__law_alike3 φ) [c0, c1, none] (rangeL 0 l.length) m = .ok [] m := by
  have e := lcL_filter (g := g__law_alike1) (t := t__law_alike2 φ) (f := f__law_alike3 φ) (r0 := [c0, c1, none]) (m := m) (fun _ => false) id (rangeL 0 l.length) fun d hd => by
    obtain ⟨k, hkk⟩ := List.mem_iff_getElem?.mp hd
    have hk := (rangeL_get hkk).1
    have ed := (rangeL_get hkk).2
    subst ed
    rw [Int.zero_add]
    refine ⟨[c0, c1, some (.val (.int (k : Nat)))], rfl, ?_, fun z => by cases z⟩
    have g0 := h0 (k : Nat)
    have g1 := h1 (k : Nat)
    rw [atI_nat (List.getElem?_eq_getElem hk)] at g0 g1
    unfold t__law_alike2
    simp only [ev_Not, ev_B, ev_call, ev_cons, ev_nil, g0, g1, ofO_some, bindR_ok, ev_callF, List.length_cons, List.length_nil]
    simp [hφ _ (List.getElem_mem hk)]
  rw [e]
  simp
/-- data that are told: not deep, not long -/
def shN : Nat → D → Bool
  | _, .non => true
  | _, .bl _ => true
  | _, .int _ => true
  | _, .str s => s.all (· < 1114112)
  | n + 1, .tup l => decide (l.length ≤ 1000) && l.all (shN n)
  | n + 1, .lst l => decide (l.length ≤ 1000) && l.all (shN n)
  | _, _ => false
theorem shN_ok : ∀ (n : Nat) (d : D), shN n d = true → okN n d = true
  | n, .non, _ => by simp
  | n, .bl _, _ => by simp
  | n, .int _, _ => by simp
  | n, .str s, h => by cases n <;> simpa [shN] using h
  | 0, .tup l, h => by cases h
  | 0, .lst l, h => by cases h
  | n + 1, .tup l, h => by
    simp only [shN, Bool.and_eq_true, List.all_eq_true] at h
    rw [okN_tup, List.all_eq_true]
    exact fun x hx => shN_ok n x (h.2 x hx)
  | n + 1, .lst l, h => by
    simp only [shN, Bool.and_eq_true, List.all_eq_true] at h
    rw [okN_lst, List.all_eq_true]
    exact fun x hx => shN_ok n x (h.2 x hx)
  | n, .dct _ _, h => by cases n <;> cases h
  | n, .obj _, h => by cases n <;> cases h
  | n, .cst _, h => by cases n <;> cases h
theorem alike_atom (φ : Fd) (d : D) (m : Sto) (h : shN 0 d = true) : alikeB φ [d, d] m = .ok (.bl true) m := by
  have ho := okN_up 0 d (shN_ok 0 d h) 60 (by decide)
  show ofFl (b__law_alike φ [some (.val d), some (.val d), none] m) = _
  unfold b__law_alike
  cases d with
  | non =>
    have t1 : fIsi [.non, .tup [.cst (.ty "tuple"), .cst (.ty "list")]] m = .ok (.bl false) m := isi2 rfl (by decide +kernel)
    have t2 : fIsi [.non, .cst (.ty "str")] m = .ok (.bl false) m := isi1 rfl (by decide +kernel)
    have h2 : (2 : Nat) ≤ LIM := by decide
    simp [t1, t2, h2]
  | bl b =>
    have t1 : fIsi [.bl b, .tup [.cst (.ty "tuple"), .cst (.ty "list")]] m = .ok (.bl false) m := isi2 rfl (by decide +kernel)
    have t2 : fIsi [.bl b, .cst (.ty "str")] m = .ok (.bl false) m := isi1 rfl (by decide +kernel)
    have t3 : fIsi [.bl b, .cst (.ty "int")] m = .ok (.bl true) m := isi1 rfl (by decide +kernel)
    have t4 : fIsi [.bl b, .cst (.ty "bool")] m = .ok (.bl true) m := isi1 rfl (by decide +kernel)
    have h2 : (2 : Nat) ≤ LIM := by decide
    have n0 : isNonD (.bl b) = some false := rfl
    simp [t1, t2, t3, t4, h2, n0]
  | int b =>
    have t1 : fIsi [.int b, .tup [.cst (.ty "tuple"), .cst (.ty "list")]] m = .ok (.bl false) m := isi2 rfl (by decide +kernel)
    have t2 : fIsi [.int b, .cst (.ty "str")] m = .ok (.bl false) m := isi1 rfl (by decide +kernel)
    have t3 : fIsi [.int b, .cst (.ty "int")] m = .ok (.bl true) m := isi1 rfl (by decide +kernel)
    have t4 : fIsi [.int b, .cst (.ty "bool")] m = .ok (.bl false) m := isi1 rfl (by decide +kernel)
    have h2 : (2 : Nat) ≤ LIM := by decide
    simp [t1, t2, t3, t4, h2]
  | str b =>
    have t1 : fIsi [.str b, .tup [.cst (.ty "tuple"), .cst (.ty "list")]] m = .ok (.bl false) m := isi2 rfl (by decide +kernel)
    have t2 : fIsi [.str b, .cst (.ty "str")] m = .ok (.bl true) m := isi1 rfl (by decide +kernel)
    have h2 : (2 : Nat) ≤ LIM := by decide
    simp only [okN_str] at ho
    simp [t1, t2, h2, -List.all_eq_true, ho]
  | tup l => cases h
  | lst l => cases h
  | _ => cases h
theorem alike_same : ∀ (n : Nat) (d : D) (m : Sto), n ≤ 20 → shN n d = true → recF alikeB (n + 1) [d, d] m = .ok (.bl true) m := by
  intro n
  induction n with
  | zero => exact fun d m _ h => alike_atom _ d m h
  | succ n ih =>
    intro d m hn h
    have base : ∀ d : D, shN 0 d = true → recF alikeB (n + 1 + 1) [d, d] m = .ok (.bl true) m := fun d h => alike_atom _ d m h
    cases d with
    | non => exact base _ rfl
    | bl b => exact base _ rfl
    | int b => exact base _ rfl
    | str b => exact base _ h
    | tup l =>
      have h' := h
      simp only [shN, Bool.and_eq_true, decide_eq_true_eq, List.all_eq_true] at h
      have hl : l.length ≤ LIM := lim12 h.1
      have hr : inR l.length = true := decide_eq_true (by omega)
      have hc := alike_comp (φ := recF alikeB (n + 1)) (l := l) (c0 := some (.val (.tup l))) (c1 := some (.val (.tup l))) (m := m) hl hr (fun x hx => ih x m (by omega) (h.2 x hx)) (fun i => rfl) (fun i => rfl)
      have t1 : fIsi [.tup l, .tup [.cst (.ty "tuple"), .cst (.ty "list")]] m = .ok (.bl true) m := isi2 rfl (by decide +kernel)
      have t2 : fIsi [.tup l, .cst (.ty "list")] m = .ok (.bl false) m := isi1 rfl (by decide +kernel)
      have h2 : (2 : Nat) ≤ LIM := by decide
      have h0 : (0 : Nat) ≤ LIM := by decide
      show ofFl (b__law_alike (recF alikeB (n + 1)) [some (.val (.tup l)), some (.val (.tup l)), none] m) = _
      unfold b__law_alike
      have e : sLc [2] (sRg (aCons (sCall fLen (aCons (sPk 1) (aNil))) (aNil))) g__law_alike1 (t__law_alike2 (recF alikeB (n + 1))) (f__law_alike3 (recF alikeB (n + 1))) [some (.val (.tup l)), some (.val (.tup l)), none] m = .ok (.lst []) m := by
        rw [ev_Lc, ev_Rg (i := l.length) (m' := m) (by simp), if_pos hr]
        simp only [bindR_ok, Int.toNat_natCast, rangeL_length]
        rw [if_pos ⟨hl, by simp⟩]
        simp only [wipeE_cons, wipeE_nil, List.set_cons_succ, List.set_cons_zero]
        rw [hc]
        simp
      simp [-ev_Lc, e, t1, t2, h2, h0]
    | lst l =>
      have h' := h
      simp only [shN, Bool.and_eq_true, decide_eq_true_eq, List.all_eq_true] at h
      have hl : l.length ≤ LIM := lim12 h.1
      have hr : inR l.length = true := decide_eq_true (by omega)
      have hc := alike_comp (φ := recF alikeB (n + 1)) (l := l) (c0 := some (.val (.lst l))) (c1 := some (.val (.lst l))) (m := m) hl hr (fun x hx => ih x m (by omega) (h.2 x hx)) (fun i => rfl) (fun i => rfl)
      have t1 : fIsi [.lst l, .tup [.cst (.ty "tuple"), .cst (.ty "list")]] m = .ok (.bl true) m := isi2 rfl (by decide +kernel)
      have t2 : fIsi [.lst l, .cst (.ty "list")] m = .ok (.bl true) m := isi1 rfl (by decide +kernel)
      have h2 : (2 : Nat) ≤ LIM := by decide
      have h0 : (0 : Nat) ≤ LIM := by decide
      show ofFl (b__law_alike (recF alikeB (n + 1)) [some (.val (.lst l)), some (.val (.lst l)), none] m) = _
      unfold b__law_alike
      have e : sLc [2] (sRg (aCons (sCall fLen (aCons (sPk 1) (aNil))) (aNil))) g__law_alike1 (t__law_alike2 (recF alikeB (n + 1))) (f__law_alike3 (recF alikeB (n + 1))) [some (.val (.lst l)), some (.val (.lst l)), none] m = .ok (.lst []) m := by
        rw [ev_Lc, ev_Rg (i := l.length) (m' := m) (by simp), if_pos hr]
        simp only [bindR_ok, Int.toNat_natCast, rangeL_length]
        rw [if_pos ⟨hl, by simp⟩]
        simp only [wipeE_cons, wipeE_nil, List.set_cons_succ, List.set_cons_zero]
        rw [hc]
        simp
      simp [-ev_Lc, e, t1, t2, h2, h0]
    | _ => cases h
theorem alike_up {d : D} {m : Sto} {n : Nat} (hn : n ≤ 7) (h : shN n d = true) : f__law_alike [d, d] m = .ok (.bl true) m := by
  have up : ∀ (n : Nat) (d : D), shN n d = true → ∀ k, n ≤ k → shN k d = true := by
    intro n
    induction n with
    | zero =>
      intro d h k _
      cases d with
      | non => cases k <;> rfl
      | bl _ => cases k <;> rfl
      | int _ => cases k <;> rfl
      | str _ => cases k <;> exact h
      | tup _ => cases h
      | lst _ => cases h
      | _ => cases h
    | succ n ih =>
      intro d h k hk
      obtain ⟨j, rfl⟩ : ∃ j, k = j + 1 := ⟨k - 1, by omega⟩
      cases d with
      | tup l =>
        simp only [shN, Bool.and_eq_true, List.all_eq_true] at h ⊢
        exact ⟨h.1, fun x hx => ih x (h.2 x hx) j (by omega)⟩
      | lst l =>
        simp only [shN, Bool.and_eq_true, List.all_eq_true] at h ⊢
        exact ⟨h.1, fun x hx => ih x (h.2 x hx) j (by omega)⟩
      | non => rfl
      | bl _ => rfl
      | int _ => rfl
      | str _ => exact h
      | _ => cases h
  exact alike_same 7 d m (by decide) (up n d h 7 hn)
theorem encW_sh {W : Wld} (h : WOk W) : shN 3 (encW W) = true := by
  have hl := h.len
  have hb : W.bars.length ≤ W.row.length := Nat.le_trans h.bars.length_le (by simp)
  have hr := h.rl
  simp only [encW, shN, List.length_cons, List.length_nil, List.all_cons, List.all_nil, Bool.and_true, Bool.and_eq_true, decide_eq_true_eq, List.length_map, encB, List.all_eq_true]
  refine ⟨by decide, fun x hx => k5_lt (h.k x hx), ⟨by omega, fun x hx => ?_⟩, by omega, fun x hx => ?_⟩
  · obtain ⟨g, _, rfl⟩ := List.mem_map.mp hx
    rfl
  · obtain ⟨q, hq, rfl⟩ := List.mem_map.mp hx
    have hq := h.r q hq
    simp [encR, shN, k5_lt hq.k, k5_lt hq.n, k5_lt hq.l]
end Dl
namespace Dl
open PySem PySem.Spec PyProof.Rows L2 TL

/-! ### worlds drawn -/
structure WIs (jars kinds many : Nat) (W : Wld) : Prop where
  ne : W.row ≠ []
  len : W.row.length ≤ jars
  k : ∀ k ∈ W.row, 97 ≤ k ∧ k < 97 + kinds
  bars : W.bars.Sublist (List.range (W.row.length - 1))
  rl : W.rules.length ≤ many
  r : ∀ q ∈ W.rules, RulOk q
theorem k5_of {k n : Nat} (hn : n ≤ 5) (h : 97 ≤ k ∧ k < 97 + n) : K5 k := by
  unfold K5
  simp only [List.mem_cons, List.not_mem_nil, or_false]
  omega
theorem WIs.ok {jars kinds many : Nat} {W : Wld} (h : WIs jars kinds many W) (h1 : jars ≤ 12) (h2 : kinds ≤ 5) (h3 : many ≤ 5) : WOk W :=
  ⟨h.ne, Nat.le_trans h.len h1, fun k hk => k5_of h2 (h.k k hk), h.bars, Nat.le_trans h.rl h3, h.r⟩
theorem L5_at {v : Int} {n : Nat} (h0 : 0 ≤ v) (h1 : v < n) (hn : n ≤ 5) : ([97, 98, 99, 100, 101] : List Nat)[v.toNat]? = some (97 + v.toNat) := by
  have : v = 0 ∨ v = 1 ∨ v = 2 ∨ v = 3 ∨ v = 4 := by omega
  rcases this with rfl | rfl | rfl | rfl | rfl <;> rfl
theorem ix5 {v : Int} {n : Nat} (h0 : 0 ≤ v) (h1 : v < n) (hn : n ≤ 5) : ixD (.str [97, 98, 99, 100, 101]) (.int v) = some (.str [97 + v.toNat]) := by
  have e : v = ((v.toNat : Nat) : Int) := by omega
  have h := L5_at h0 h1 hn
  generalize v.toNat = k at e h ⊢
  subst e
  exact ix_str (by simpa using h) (by decide)
theorem row_comp {jars kinds many : Int} {kn : Nat} (hk0 : 1 ≤ kn) (hk : kn ≤ 5) (ek : kinds = kn) {c4 c6 : Option Cell} (l : List D) (m : Sto) (hm : Good m) :
    ∃ (ks : List Nat) (m' : Sto), lcL g__law_world1 sYes f__law_world2 [some (.val (.obj 0)), some (.val (.int jars)), some (.val (.int kinds)), some (.val (.int many)), c4, none, c6, none] l m = .ok (ks.map fun c => D.str [c]) m' ∧ ks.length = l.length ∧ (∀ k ∈ ks, 97 ≤ k ∧ k < 97 + kn) ∧ Good m' := by
  obtain ⟨ys, m', e, el, hp, hg⟩ := lcL_draw (g := g__law_world1) (t := sYes) (f := f__law_world2) (r0 := [some (.val (.obj 0)), some (.val (.int jars)), some (.val (.int kinds)), some (.val (.int many)), c4, none, c6, none]) Good (fun _ y => ∃ k : Nat, y = .str [k] ∧ 97 ≤ k ∧ k < 97 + kn) l m hm fun d hd m hm => by
    obtain ⟨v, m', e, h0, h1, hg⟩ := draw hm (k := kinds) (by omega) (by omega)
    have hix := ix5 h0 (n := kn) (by omega) hk
    refine ⟨_, .str [97 + v.toNat], m', rfl, rfl, ?_, ⟨97 + v.toNat, rfl, by omega, by omega⟩, hg⟩
    simp [f__law_world2, f__law_next, e, hix]
  obtain ⟨ks, rfl, hks⟩ : ∃ ks : List Nat, ys = ks.map (fun c => D.str [c]) ∧ ∀ k ∈ ks, 97 ≤ k ∧ k < 97 + kn := by
    have : ∀ (l' ys' : List D), ys'.length = l'.length → (∀ (k : Nat) (d y : D), l'[k]? = some d → ys'[k]? = some y → ∃ k : Nat, y = .str [k] ∧ 97 ≤ k ∧ k < 97 + kn) → ∃ ks : List Nat, ys' = ks.map (fun c => D.str [c]) ∧ ∀ k ∈ ks, 97 ≤ k ∧ k < 97 + kn := by
      intro l'
      induction l' with
      | nil =>
        intro ys' hl _
        have : ys' = [] := List.eq_nil_of_length_eq_zero hl
        exact ⟨[], by simp [this], by simp⟩
      | cons d l' ih =>
        intro ys' hl hp
        cases ys' with
        | nil => simp at hl
        | cons y ys' =>
          obtain ⟨k, rfl, hk⟩ := hp 0 d y rfl rfl
          obtain ⟨ks, rfl, hks⟩ := ih ys' (by simpa using hl) fun k d y h1 h2 => hp (k + 1) d y (by simpa using h1) (by simpa using h2)
          refine ⟨k :: ks, rfl, fun x hx => ?_⟩
          rcases List.mem_cons.mp hx with rfl | hx
          · exact hk
          · exact hks x hx
    exact this l ys el hp
  exact ⟨ks, m', e, by simpa using el, hks, hg⟩
theorem bars_comp {c0 c1 c2 c3 c4 c6 : Option Cell} (h0 : c0 = some (.val (.obj 0))) (n : Nat) (m : Sto) (hm : Good m) :
    ∃ (bs : List Nat) (m' : Sto), lcL g__law_world3 t__law_world4 f__law_world5 [c0, c1, c2, c3, c4, none, c6, none] (rangeL 0 n) m = .ok (encB bs) m' ∧ bs.Sublist (List.range n) ∧ Good m' := by
  subst h0
  obtain ⟨ys, m', e, sl, hg⟩ := lcL_some (g := g__law_world3) (t := t__law_world4) (f := f__law_world5) (r0 := [some (.val (.obj 0)), c1, c2, c3, c4, none, c6, none]) Good (rangeL 0 n) m hm fun d hd m hm => by
    obtain ⟨v, m', e, h0, h1, hg⟩ := draw hm (k := 5) (by decide) (by decide)
    refine ⟨_, (v == 0), m', rfl, ?_, hg, rfl⟩
    simp [t__law_world4, f__law_next, e]
  obtain ⟨bs, hb, rfl⟩ := List.sublist_map_iff.mp (show ys.Sublist ((List.range n).map fun k : Nat => D.int (0 + k)) from sl)
  refine ⟨bs, m', ?_, hb, hg⟩
  rw [e]
  simp [encB]
theorem strike_eval {L : List Nat} {i j l : Nat} {fa fb fd : SE} {g : SS} {r : Env} {m m1 m2 m3 : Sto} {k k2 : Int} {c c2 : Nat} {y : D} (h1 : fa r m = .ok (.int k) m1) (h2 : 0 ≤ k) (h3 : L[k.toNat]? = some c) (h4 : fb r m1 = .ok y m2)
    (h5 : fd ((r.set i (some (.val (.str [c])))).set j (some (.val y))) m2 = .ok (.int k2) m3) (h6 : 0 ≤ k2) (h7 : (L.filter (· != c))[k2.toNat]? = some c2) : sStrike L i j l fa fb fd g r m = g (((r.set i (some (.val (.str [c])))).set j (some (.val y))).set l (some (.val (.str [c2])))) m3 := by
  unfold sStrike
  rw [h1]
  simp only [bindS_ok]
  rw [if_pos h2, h3]
  simp only [h4, bindS_ok, h5]
  rw [if_pos h6]
  rw [h7]
theorem later_at {c : Nat} (hc : K5 c) {v : Int} (h0 : 0 ≤ v) (h1 : v < 4) : ∃ c2, (([97, 98, 99, 100, 101] : List Nat).filter (· != c))[v.toNat]? = some c2 ∧ K5 c2 ∧ c2 ≠ c := by
  have hv : v = 0 ∨ v = 1 ∨ v = 2 ∨ v = 3 := by omega
  simp only [K5, List.mem_cons, List.not_mem_nil, or_false] at hc
  rcases hc with rfl | rfl | rfl | rfl | rfl <;> rcases hv with rfl | rfl | rfl | rfl <;> exact ⟨_, rfl, by unfold K5; decide, by decide⟩
theorem rule_turn {kinds many : Int} {kn : Nat} (hk0 : 1 ≤ kn) (hk : kn ≤ 5) (ek : kinds = kn) {acc : List D} (hl : acc.length ≤ 100) {d : D} (m : Sto) (hm : Good m) :
    ∃ (q : Rul) (m' : Sto), b__law_rules1 [some (.val (.obj 0)), some (.val (.int kinds)), some (.val (.int many)), some (.lst acc), some (.val d), none, none, none] m = .nx [some (.val (.obj 0)), some (.val (.int kinds)), some (.val (.int many)), some (.lst (acc ++ [encR q])), none, none, none, none] m' ∧ RulOk q ∧ Good m' := by
  obtain ⟨v1, m1, e1, a1, b1, g1⟩ := draw hm (k := kinds) (by omega) (by omega)
  obtain ⟨v2, m2, e2, a2, b2, g2⟩ := draw g1 (k := kinds) (by omega) (by omega)
  obtain ⟨v3, m3, e3, a3, b3, g3⟩ := draw g2 (k := max 1 (kinds - 1)) (by omega) (by omega)
  obtain ⟨v4, m4, e4, a4, b4, g4⟩ := draw g3 (k := 3) (by decide) (by decide)
  obtain ⟨v5, m5, e5, a5, b5, g5⟩ := draw g4 (k := 4) (by decide) (by decide)
  obtain ⟨v6, m6, e6, a6, b6, g6⟩ := draw g5 (k := 2) (by decide) (by decide)
  have hc : K5 (97 + v1.toNat) := k5_of hk (by omega)
  have hn : K5 (97 + v2.toNat) := k5_of hk (by omega)
  obtain ⟨c2, hc2, k2, ne2⟩ := later_at hc a3 (show v3 < 4 by omega)
  have hlt : acc.length < LIM := Nat.lt_of_le_of_lt hl (by decide)
  have h5 : (5 : Nat) ≤ LIM := by decide
  have hd : opDiv (.int v4) (.int 2) m4 = .ok (.int (v4 / 2)) m4 := by
    rw [div_int]
    exact if_pos ⟨by decide, by decide⟩
  have hmul : opMul (.int v5) (.int v6) m6 = .ok (.int (v5 * v6)) m6 := by
    show (if (-(2 ^ 64) < v5 ∧ v5 < 2 ^ 64) ∨ (-(2 ^ 64) < v6 ∧ v6 < 2 ^ 64) then R.ok (D.int (v5 * v6)) m6 else R.bad) = _
    exact if_pos (.inr (by omega))
  refine ⟨⟨97 + v1.toNat, 97 + v2.toNat, 1 + v4 / 2, 1 + v5 * v6, c2⟩, m6, ?_, ⟨hc, hn, k2, ne2, by show 1 ≤ 1 + v4 / 2; omega, by show 1 + v4 / 2 ≤ 2; omega, ?_, ?_⟩, g6⟩
  · unfold b__law_rules1
    rw [strike_eval (k := v1) (c := 97 + v1.toNat) (m1 := m1) (y := .str [97 + v2.toNat]) (m2 := m2) (k2 := v3) (m3 := m3) (c2 := c2) (by simp [f__law_next, e1]) a1 (L5_at a1 (n := kn) (by omega) hk) (by
      have := ix5 a2 (n := kn) (by omega) hk
      simp [f__law_next, e2, this]) (by simp [f__law_next, e3]) a3 hc2]
    simp [f__law_next, e4, e5, e6, hd, hmul, h5, hlt, encR]
  · show 1 ≤ 1 + v5 * v6
    have : 0 ≤ v5 * v6 := Int.mul_nonneg a5 a6
    omega
  · show 1 + v5 * v6 ≤ 4
    have : v6 = 0 ∨ v6 = 1 := by omega
    rcases this with rfl | rfl <;> omega
theorem rules_loop {kinds many : Int} {kn : Nat} (hk0 : 1 ≤ kn) (hk : kn ≤ 5) (ek : kinds = kn) : ∀ (l : List D) (acc : List Rul) (m : Sto), Good m → acc.length + l.length ≤ 100 → (∀ q ∈ acc, RulOk q) →
    ∃ (rs : List Rul) (m' : Sto), forL g__law_rules2 b__law_rules1 l [some (.val (.obj 0)), some (.val (.int kinds)), some (.val (.int many)), some (.lst (acc.map encR)), none, none, none, none] m = .nx [some (.val (.obj 0)), some (.val (.int kinds)), some (.val (.int many)), some (.lst (rs.map encR)), none, none, none, none] m' ∧ rs.length = acc.length + l.length ∧ (∀ q ∈ rs, RulOk q) ∧ Good m'
  | [], acc, m, hm, _, hq => ⟨acc, m, rfl, rfl, hq, hm⟩
  | d :: l, acc, m, hm, hl, hq => by
    simp only [List.length_cons] at hl
    obtain ⟨q, m1, e, okq, g1⟩ := rule_turn (many := many) hk0 hk ek (acc := acc.map encR) (by simp; omega) (d := d) m hm
    obtain ⟨rs, m2, e2, l2, q2, g2⟩ := rules_loop hk0 hk ek l (acc ++ [q]) m1 g1 (by simp; omega) (fun x hx => (List.mem_append.mp hx).elim (hq x) fun z => by rw [List.mem_singleton.mp z]; exact okq)
    refine ⟨rs, m2, ?_, by rw [l2]; simp; omega, q2, g2⟩
    rw [forL_step (r' := [some (.val (.obj 0)), some (.val (.int kinds)), some (.val (.int many)), some (.lst (acc.map encR)), some (.val d), none, none, none]) rfl e]
    simpa using e2
theorem rules_ok {kinds many : Int} {kn mn : Nat} (hk0 : 1 ≤ kn) (hk : kn ≤ 5) (ek : kinds = kn) (hmn : mn ≤ 50) (em : many = mn) (m : Sto) (hm : Good m) :
    ∃ (rs : List Rul) (m' : Sto), f__law_rules [.obj 0, .int kinds, .int many] m = .ok (.tup (rs.map encR)) m' ∧ rs.length ≤ mn ∧ (∀ q ∈ rs, RulOk q) ∧ Good m' := by
  obtain ⟨v, m1, e, a, b, g⟩ := draw hm (k := many + 1) (by omega) (by omega)
  obtain ⟨rs, m2, e2, l2, q2, g2⟩ := rules_loop (many := many) hk0 hk ek (rangeL 0 v.toNat) [] m1 g (by simp [rangeL_length]; omega) (by simp)
  refine ⟨rs, m2, ?_, by rw [l2]; simp [rangeL_length]; omega, q2, g2⟩
  show ofFl (b__law_rules [some (.val (.obj 0)), some (.val (.int kinds)), some (.val (.int many)), none, none, none, none, none] m) = _
  unfold b__law_rules
  have h0 : (0 : Nat) ≤ LIM := by decide
  rw [seq_nx (r1 := [some (.val (.obj 0)), some (.val (.int kinds)), some (.val (.int many)), some (.lst []), none, none, none, none]) (m1 := m) (by simp [h0])]
  have hin : inR v = true := decide_eq_true (by omega)
  rw [seq_nx (r1 := [some (.val (.obj 0)), some (.val (.int kinds)), some (.val (.int many)), some (.lst (rs.map encR)), none, none, none, none]) (m1 := m2) (by
    rw [ev_for, ev_Rg (i := v) (m' := m1) (by simp [f__law_next, e]), if_pos hin, bindS_ok]
    exact e2)]
  simp
theorem joinD_ok2 {ps : List (List Nat)} {m : Sto} (h : (ps.map List.length).sum ≤ 1000) : joinD [] ps m = .ok (.str ps.flatten) m := by
  rw [joinD_ok (by simpa using h), joinL_nil]
theorem sum_ones (row : List Nat) : ((row.map fun c => [c]).map List.length).sum = row.length := by
  induction row with
  | nil => rfl
  | cons a r ih =>
    simp only [List.map_cons, List.sum_cons, List.length_cons, List.length_nil, ih]
    omega
theorem flat_ones (row : List Nat) : (row.map fun c => [c]).flatten = row := by
  induction row with
  | nil => rfl
  | cons a r ih =>
    simp only [List.map_cons, List.flatten_cons, ih]
    rfl
theorem world_ok {jars kinds many : Int} {jn kn mn : Nat} (hj0 : 1 ≤ jn) (hj : jn ≤ 500) (ej : jars = jn) (hk0 : 1 ≤ kn) (hk : kn ≤ 5) (ek : kinds = kn) (hmn : mn ≤ 50) (em : many = mn) (m : Sto) (hm : Good m) :
    ∃ (W : Wld) (m' : Sto), f__law_world [.obj 0, .int jars, .int kinds, .int many] m = .ok (encW W) m' ∧ WIs jn kn mn W ∧ Good m' := by
  obtain ⟨v, m1, e1, a1, b1, g1⟩ := draw hm (k := jars) (by omega) (by omega)
  obtain ⟨row, m2, e2, l2, k2, g2⟩ := row_comp (jars := jars) (many := many) hk0 hk ek (c4 := none) (c6 := none) (rangeL 0 (1 + v).toNat) m1 g1
  rw [rangeL_length] at l2
  obtain ⟨bs, m3, e3, s3, g3⟩ := bars_comp (c0 := some (.val (.obj 0))) (c1 := some (.val (.int jars))) (c2 := some (.val (.int kinds))) (c3 := some (.val (.int many))) (c4 := some (.val (.str row))) (c6 := none) rfl (row.length - 1) m2 g2
  obtain ⟨rs, m4, e4, l4, q4, g4⟩ := rules_ok hk0 hk ek hmn em m3 g3
  refine ⟨⟨row, bs, rs⟩, m4, ?_, ⟨?_, ?_, k2, s3, l4, q4⟩, g4⟩
  · show ofFl (b__law_world [some (.val (.obj 0)), some (.val (.int jars)), some (.val (.int kinds)), some (.val (.int many)), none, none, none, none] m) = _
    unfold b__law_world
    have hin : inR (1 + v) = true := decide_eq_true (by omega)
    have hz : row.length ≤ LIM := lim12 (by omega)
    have hz1 : (1 + v).toNat ≤ LIM := lim12 (by omega)
    have hz2 : row.length - 1 ≤ LIM := lim12 (by omega)
    have hin2 : inR ((row.length : Int) - 1) = true := decide_eq_true (by omega)
    have e5 : ((row.length : Int) - 1).toNat = row.length - 1 := by omega
    have hmap : row.map (fun c => D.str [c]) = (row.map fun c => [c]).map D.str := by simp
    have hsum : ((row.map fun c => [c]).map List.length).sum ≤ 1000 := by
      have := sum_ones row
      omega
    have hfl := flat_ones row
    rw [seq_nx (r1 := [some (.val (.obj 0)), some (.val (.int jars)), some (.val (.int kinds)), some (.val (.int many)), some (.val (.str row)), none, none, none]) (m1 := m2) (by
      simp only [ev_set, ev_cV, ev_meth, ev_c, bindR_ok, kD_str, if_true, ev_cons, ev_Lc]
      rw [ev_Rg (i := 1 + v) (m' := m1) (by simp [f__law_next, e1]), if_pos hin]
      simp only [bindR_ok, rangeL_length]
      rw [if_pos ⟨hz1, by simp⟩]
      simp only [wipeE_cons, wipeE_nil, List.set_cons_succ, List.set_cons_zero]
      rw [e2, hmap]
      simp only [bindR_ok, ev_nil, join_l, strsD_map, joinD_ok2 hsum, hfl, bindS_ok, List.set_cons_succ, List.set_cons_zero])]
    rw [seq_nx (r1 := [some (.val (.obj 0)), some (.val (.int jars)), some (.val (.int kinds)), some (.val (.int many)), some (.val (.str row)), none, some (.val (.tup (encB bs))), none]) (m1 := m3) (by
      simp only [ev_set, ev_cV, ev_call, ev_cons, ev_nil, ev_Lc]
      rw [ev_Rg (i := (row.length : Int) - 1) (m' := m2) (by simp [hz]), if_pos hin2]
      simp only [bindR_ok, rangeL_length, e5]
      rw [if_pos ⟨hz2, by simp⟩]
      simp only [wipeE_cons, wipeE_nil, List.set_cons_succ, List.set_cons_zero]
      rw [e3]
      simp)]
    have h3 : (3 : Nat) ≤ LIM := by decide
    simp [e4, h3, encW]
  · intro e
    have l2 : row.length = (1 + v).toNat := l2
    have e : row = [] := e
    rw [e] at l2
    simp at l2
    omega
  · show row.length ≤ jn
    omega
end Dl
namespace Dl
open PySem PySem.Spec PyProof.Rows L2 TL

/-! ### the law -/
theorem joinL_small {a : List Nat} {n : Nat} (ha : ∀ c ∈ a, c < n) : ∀ ps : List (List Nat), (∀ p ∈ ps, ∀ c ∈ p, c < n) → ∀ c ∈ joinL a ps, c < n
  | [], _ => fun c hc => by simp [joinL] at hc
  | [p], h => fun c hc => h p (List.mem_cons_self ..) c (by simpa [joinL] using hc)
  | p :: q :: r, h => fun c hc => by
    have hc : c ∈ p ++ (a ++ joinL a (q :: r)) := hc
    rcases List.mem_append.mp hc with z | z
    · exact h p (List.mem_cons_self ..) c z
    · rcases List.mem_append.mp z with z | z
      · exact ha c z
      · exact joinL_small ha (q :: r) (fun x hx => h x (List.mem_cons_of_mem _ hx)) c z
theorem k5_200 {k : Nat} (h : K5 k) : k < 200 := by
  simp only [K5, List.mem_cons, List.not_mem_nil, or_false] at h
  omega
theorem sgL_small {bars : List Nat} : ∀ (r : List Nat) (i : Nat), (∀ k ∈ r, K5 k) → ∀ c ∈ (sgL bars i r).flatten, c < 200
  | [], _, _ => fun c hc => by simp [sgL] at hc
  | k :: r, i, h => fun c hc => by
    simp only [sgL, List.flatten_cons, List.mem_append, List.mem_cons] at hc
    rcases hc with (rfl | hc) | hc
    · exact k5_200 (h _ (List.mem_cons_self ..))
    · by_cases e : i ∈ bars
      · rw [if_pos e] at hc
        have := List.mem_singleton.mp hc
        omega
      · rw [if_neg e] at hc
        cases hc
    · exact sgL_small r (i + 1) (fun x hx => h x (List.mem_cons_of_mem _ hx)) c hc
theorem text_small {W : Wld} (h : WOk W) : ∀ c ∈ textW W, c < 200 := by
  refine joinL_small (by simp) _ fun p hp => ?_
  rcases List.mem_cons.mp hp with rfl | hp
  · exact sgL_small _ _ h.k
  · obtain ⟨q, hq, rfl⟩ := List.mem_map.mp hp
    have hq := h.r q hq
    obtain ⟨c, e, hc, _⟩ := dec_one hq.m1 (Int.le_trans hq.m2 (by decide))
    obtain ⟨d, e2, hd, _⟩ := dec_one hq.b1 hq.b2
    simp only [List.mem_cons, List.not_mem_nil, or_false] at hc hd
    refine joinL_small (by simp) _ fun p hp => ?_
    rw [ruleW, e, e2] at hp
    simp only [List.mem_cons, List.not_mem_nil, or_false] at hp
    have a1 := k5_200 hq.k; have a2 := k5_200 hq.n; have a3 := k5_200 hq.l
    rcases hp with rfl | rfl | rfl | rfl | rfl | rfl <;> intro x hx <;> simp only [List.mem_cons, List.not_mem_nil, or_false] at hx <;> omega
theorem text_okN {W : Wld} (h : WOk W) : (textW W).all (fun x => decide (x < 1114112)) = true := by
  rw [List.all_eq_true]
  exact fun x hx => decide_eq_true (Nat.lt_trans (text_small h x hx) (by decide))
def cutW (W : Wld) (n : Nat) : Wld := { W with rules := W.rules.take n }
theorem cutW_ok {W : Wld} (h : WOk W) (n : Nat) : WOk (cutW W n) := ⟨h.ne, h.len, h.k, h.bars, Nat.le_trans (List.length_take_le' ..) h.rl, fun q hq => h.r q (List.mem_of_mem_take hq)⟩
theorem cut_take {α : Type} {l : List α} {n : Nat} (hn : n ≤ l.length) : cutL l none (some (n : Int)) = l.take n := by
  have h1 : HT.sIx l.length 0 none = 0 := rfl
  have h2 : HT.sIx l.length l.length (some (n : Int)) = n := by
    have hneg : ¬ ((n : Int) < 0) := by omega
    simp only [HT.sIx, if_neg hneg]
    simp
    omega
  unfold cutL
  rw [h1, h2]
  simp
theorem law_turn (c0 : Option Cell) (d : D) (m : Sto) (hm : Good m) : ∃ m', b_law1 [c0, some (.val (.obj 0)), some (.val d), none, none, none, none] m = .nx [c0, some (.val (.obj 0)), none, none, none, none, none] m' ∧ Good m' := by
  obtain ⟨W, m1, e1, w1, g1⟩ := world_ok (jars := 12) (kinds := 5) (many := 5) (jn := 12) (kn := 5) (mn := 5) (by decide) (by decide) rfl (by decide) (by decide) rfl (by decide) rfl m hm
  have h := w1.ok (by decide) (by decide) (by decide)
  obtain ⟨v, m2, e2, a2, b2, g2⟩ := draw g1 (k := (W.rules.length : Int) + 1) (by omega) (by have := h.rl; omega)
  obtain ⟨n, rfl⟩ : ∃ n : Nat, v = n := ⟨v.toNat, by omega⟩
  have hn : n ≤ W.rules.length := by omega
  have h' := cutW_ok h n
  refine ⟨m2, ?_, g2⟩
  unfold b_law1
  rw [seq_nx (r1 := [c0, some (.val (.obj 0)), some (.val d), some (.val (encW W)), none, none, none]) (m1 := m1) (by simp [e1])]
  rw [seq_nx (r1 := [c0, some (.val (.obj 0)), some (.val d), some (.val (encW W)), some (.val (.str (textW W))), none, none]) (m1 := m1) (by simp [text_ok h])]
  have ok1 := text_okN h
  have al1 := alike_up (m := m1) (by decide) (encW_sh h)
  rw [seq_nx (r1 := [c0, some (.val (.obj 0)), some (.val d), some (.val (encW W)), some (.val (.str (textW W))), none, none]) (m1 := m1) (by
    simp [-List.all_eq_true, written_ok h, read_ok h, ok1, al1])]
  rw [seq_nx (r1 := [c0, some (.val (.obj 0)), some (.val d), some (.val (encW W)), some (.val (.str (textW W))), some (.val (.int (n : Nat))), none]) (m1 := m2) (by
    have e : ixD (encW W) (.int 2) = some (.tup (W.rules.map encR)) := rfl
    simp [e, f__law_next, e2])]
  have hlen : (linesW W).length = W.rules.length + 1 := by simp [linesW]
  have hcut : cutL ((linesW W).map D.str) none (some (1 + (n : Int))) = ((linesW (cutW W n)).map D.str) := by
    have e : (1 : Int) + (n : Int) = ((n + 1 : Nat) : Int) := by omega
    rw [e, cut_take (by rw [List.length_map, hlen]; omega)]
    simp [linesW, cutW, line0, List.map_take]
  rw [seq_nx (r1 := [c0, some (.val (.obj 0)), some (.val d), some (.val (encW W)), some (.val (.str (textW W))), some (.val (.int (n : Nat))), some (.val (.lst ((linesW (cutW W n)).map D.str)))]) (m1 := m2) (by
    simp [split_text h, hcut])]
  have hj : ((linesW (cutW W n)).map List.length).sum + (linesW (cutW W n)).length * [10].length ≤ 1000 := by
    have h1 := lines_sum h'
    have h2 := h'.rl
    have h3 : (linesW (cutW W n)).length = (cutW W n).rules.length + 1 := by simp [linesW]
    simp only [List.length_cons, List.length_nil]
    omega
  have al2 := alike_up (m := m2) (by decide) (encW_sh h')
  have s1 : opSl (encW W) none (some 2) m2 = .ok (.tup [.str W.row, .tup (encB W.bars)]) m2 := rfl
  have s2 : cutL (W.rules.map encR) none (some (n : Int)) = (cutW W n).rules.map encR := by
    rw [cut_take (by simpa using hn)]
    simp [cutW, List.map_take]
  have h1 : (1 : Nat) ≤ LIM := by decide
  have h3 : (3 : Nat) ≤ LIM := by decide
  have ee : encW (cutW W n) = .tup [.str W.row, .tup (encB W.bars), .tup ((cutW W n).rules.map encR)] := rfl
  rw [seq_nx (r1 := [c0, some (.val (.obj 0)), some (.val d), some (.val (encW W)), some (.val (.str (textW W))), some (.val (.int (n : Nat))), some (.val (.lst ((linesW (cutW W n)).map D.str)))]) (m1 := m2) (by
    have e : ixD (encW W) (.int 2) = some (.tup (W.rules.map encR)) := rfl
    have r2 := read_ok h' m2
    unfold textW at r2
    rw [ee] at r2 al2
    simp [joinD_ok hj, r2, s1, s2, e, h1, h3, al2])]
  simp
theorem law_loop (c0 : Option Cell) : ∀ (l : List D) (m : Sto), Good m → ∃ m', forL g_law2 b_law1 l [c0, some (.val (.obj 0)), none, none, none, none, none] m = .nx [c0, some (.val (.obj 0)), none, none, none, none, none] m'
  | [], m, _ => ⟨m, rfl⟩
  | d :: l, m, hm => by
    obtain ⟨m1, e, g1⟩ := law_turn c0 d m hm
    obtain ⟨m2, e2⟩ := law_loop c0 l m1 g1
    exact ⟨m2, by rw [forL_step (r' := [c0, some (.val (.obj 0)), some (.val d), none, none, none, none]) rfl e, e2]⟩
theorem law_ok : LawOk n_law 29 b_law := by
  intro a ns hl
  obtain ⟨m, e⟩ := law_loop (some (.val (.cst (.ref a)))) (rangeL 0 8) _ (good_start hl)
  refine ⟨m, ?_⟩
  show b_law [some (.val (.cst (.ref a))), some (.val (.obj 0)), none, none, none, none, none] _ = _
  unfold b_law
  rw [seq_nx (r1 := [some (.val (.cst (.ref a))), some (.val (.obj 0)), none, none, none, none, none]) (m1 := m) (by
    have hin : inR 8 = true := by decide
    rw [ev_for, ev_Rg (i := 8) (m' := [.drw (mixS ns 29) ns 0]) (by simp), if_pos hin, bindS_ok]
    exact e)]
  simp
end Dl
namespace Dl
open PySem PySem.Spec PyProof.Rows L2 TL
def top (i : Nat) : Stmt := PySem.Challenge.pw_sourrow_k09_worlds_written_and_read.main.body.getD i (.Pass ⟨0, 0, 0, 0⟩)
abbrev s_need_row : Stmt := top 12
abbrev s_need_bars : Stmt := top 13
abbrev s_is_kind : Stmt := top 11
abbrev s_is_rule : Stmt := top 14
abbrev s_need_rules : Stmt := top 15
abbrev s_need_world : Stmt := top 16
abbrev s_written : Stmt := top 20
abbrev s_rule_of : Stmt := top 21
abbrev s_read : Stmt := top 22
abbrev s__law_next : Stmt := top 25
abbrev s__law_alike : Stmt := top 26
abbrev s__law_rules : Stmt := top 27
abbrev s__law_world : Stmt := top 28
abbrev s__law_text : Stmt := top 29
abbrev s__law_mix : Stmt := top 24
abbrev s_law : Stmt := top 30
/-- what the top has left -/
structure GT (K : PySem.W.Frag) (mg : Str → Option Value) : Prop where
  d_need_row : DefIs K mg "need_row" s_need_row
  d_need_bars : DefIs K mg "need_bars" s_need_bars
  d_is_kind : DefIs K mg "is_kind" s_is_kind
  d_is_rule : DefIs K mg "is_rule" s_is_rule
  d_need_rules : DefIs K mg "need_rules" s_need_rules
  d_need_world : DefIs K mg "need_world" s_need_world
  d_written : DefIs K mg "written" s_written
  d_rule_of : DefIs K mg "rule_of" s_rule_of
  d_read : DefIs K mg "read" s_read
  d__law_next : DefIs K mg "_law_next" s__law_next
  d__law_alike : DefIs K mg "_law_alike" s__law_alike
  d__law_rules : DefIs K mg "_law_rules" s__law_rules
  d__law_world : DefIs K mg "_law_world" s__law_world
  d__law_text : DefIs K mg "_law_text" s__law_text
  d__law_mix : DefIs K mg "_law_mix" s__law_mix
  d_law : DefIs K mg "law" s_law
  g_BAR : ∃ t, mg "BAR" = some (.str "|" t)
  g_KINDS : ∃ t, mg "KINDS" = some (.str "abcde" t)
  g_MOST_BEATS : ∃ t, mg "MOST_BEATS" = some (.int 4 t)
  g_MOST_JARS : ∃ t, mg "MOST_JARS" = some (.int 12 t)
  g_MOST_RULES : ∃ t, mg "MOST_RULES" = some (.int 5 t)
  g_RULE : ∃ t, mg "RULE" = some (.str "rule" t)
  z_all : mg "all" = none
  z_bool : mg "bool" = none
  z_enumerate : mg "enumerate" = none
  z_int : mg "int" = none
  z_isinstance : mg "isinstance" = none
  z_len : mg "len" = none
  z_list : mg "list" = none
  z_max : mg "max" = none
  z_range : mg "range" = none
  z_str : mg "str" = none
  z_tuple : mg "tuple" = none
section
variable {P : Program} {w : World} {K : PySem.W.Frag} {mg : Str → Option Value} {base : Heap} {t : Tf}
theorem sc_need_row : FnScope n_need_row ["row"] (defScope s_need_row) := ⟨rfl, rfl, rfl, by decide +kernel, rfl, by decide +kernel, by decide +kernel⟩
theorem c_need_row (T : GT K mg) : Cal P w K mg base 1 "need_row" 1 t f_need_row :=
  Cal.of (k := 0) T.d_need_row sc_need_row (fun _ _ _ _ _ _ us hl => match us, hl with | [_], _ => rfl) fun f cdv A outer s H E hr =>
    dss_cons (ds_for (passes_of rfl) rfl (di_en (by rfl) T.z_enumerate (da_cons (de_var (pv 0)) (da_nil))) (dg_tup rfl (dgs_cons (dg_name (i := 1) sc_need_row.nd rfl (by first | exact Or.inl rfl | exact Or.inr rfl)) (dgs_cons (dg_name (i := 2) sc_need_row.nd rfl (by first | exact Or.inl rfl | exact Or.inr rfl)) (dgs_nil))) (tk_cons (tk_cons (tk_nil)))) (dss_cons (ds_if (dt_w (dw_or (dt_eq hr.units (dk_var (pv 1)) ((de_gintE (by rfl) T.g_MOST_JARS).k)) (dw_or1 (dt_nin (dk_var (pv 2)) ((de_gstrE [97, 98, 99, 100, 101] (by rfl) T.g_KINDS).k))))) (dss_one (ds_never)) (dss_nil)) (dss_forget 1 (dss_forget 2 (dss_nil))))) (dss_one (ds_if (dt_eq hr.units (dk_var (pv 0)) ((de_str []).k)) (dss_one (ds_never)) (dss_nil)))
theorem sc_need_bars : FnScope n_need_bars ["row", "bars"] (defScope s_need_bars) := ⟨rfl, rfl, rfl, by decide +kernel, rfl, by decide +kernel, by decide +kernel⟩
theorem c_need_bars (T : GT K mg) : Cal P w K mg base 1 "need_bars" 2 t f_need_bars :=
  Cal.of (k := 0) T.d_need_bars sc_need_bars (fun _ _ _ _ _ _ us hl => match us, hl with | [_, _], _ => rfl) fun f cdv A outer s H E hr =>
    dss_one (ds_for (passes_of rfl) rfl (di_en (by rfl) T.z_enumerate (da_cons (de_var (pv 1)) (da_nil))) (dg_tup rfl (dgs_cons (dg_name (i := 2) sc_need_bars.nd rfl (by first | exact Or.inl rfl | exact Or.inr rfl)) (dgs_cons (dg_name (i := 3) sc_need_bars.nd rfl (by first | exact Or.inl rfl | exact Or.inr rfl)) (dgs_nil))) (tk_cons (tk_cons (tk_nil)))) (dss_cons (ds_if (dt_w (dw_or (dt_not (dt_lelt ((de_int).k) (dk_var (pv 3)) ((de_sub ((de_len (by rfl) T.z_len (dk_var (pv 0))).k) ((de_int).k)).k))) (dw_or1 (dt_w (dw_and (dt_gt (dk_var (pv 2)) ((de_int).k)) (dw_and1 (dt_le (dk_var (pv 3)) ((de_ix (dk_var (pv 1)) ((de_sub (dk_var (pv 2)) ((de_int).k)).k)).k)))))))) (dss_one (ds_never)) (dss_nil)) (dss_forget 2 (dss_forget 3 (dss_nil)))))
theorem sc_is_kind : FnScope n_is_kind ["sign"] (defScope s_is_kind) := ⟨rfl, rfl, rfl, by decide +kernel, rfl, by decide +kernel, by decide +kernel⟩
theorem c_is_kind (T : GT K mg) : Cal P w K mg base 1 "is_kind" 1 t f_is_kind :=
  Cal.of (k := 0) T.d_is_kind sc_is_kind (fun _ _ _ _ _ _ us hl => match us, hl with | [_], _ => rfl) fun f cdv A outer s H E hr =>
    dss_one (ds_ret (de_and (de_eq hr.units ((de_len (by rfl) T.z_len (dk_var (pv 0))).k) ((de_int).k)) (de_one (de_in (dk_var (pv 0)) ((de_gstrE [97, 98, 99, 100, 101] (by rfl) T.g_KINDS).k)))))
theorem sc_is_rule : FnScope n_is_rule ["rule"] (defScope s_is_rule) := ⟨rfl, rfl, rfl, by decide +kernel, rfl, by decide +kernel, by decide +kernel⟩
theorem c_is_rule (T : GT K mg) : Cal P w K mg base 2 "is_rule" 1 t f_is_rule :=
  Cal.of (k := 1) T.d_is_rule sc_is_rule (fun _ _ _ _ _ _ us hl => match us, hl with | [_], _ => rfl) fun f cdv A outer s H E hr =>
    dss_cons (ds_if (dt_w (dw_or (dt_ne hr.units ((de_len (by rfl) T.z_len (dk_var (pv 0))).k) ((de_int).k)) (dw_or (dt_not (dt_val (de_callC (c_is_kind T) (hr.mono (by decide)) (by rfl) (takes_of rfl rfl rfl rfl) (da_cons (de_ix (dk_var (pv 0)) ((de_int).k)) (da_nil))))) (dw_or (dt_not (dt_val (de_callC (c_is_kind T) (hr.mono (by decide)) (by rfl) (takes_of rfl rfl rfl rfl) (da_cons (de_ix (dk_var (pv 0)) ((de_int).k)) (da_nil))))) (dw_or1 (dt_not (dt_val (de_callC (c_is_kind T) (hr.mono (by decide)) (by rfl) (takes_of rfl rfl rfl rfl) (da_cons (de_ix (dk_var (pv 0)) ((de_int).k)) (da_nil)))))))))) (dss_one (ds_ret (de_bl))) (dss_nil)) (dss_one (ds_ret (de_and (de_ne hr.units ((de_ix (dk_var (pv 0)) ((de_int).k)).k) ((de_ix (dk_var (pv 0)) ((de_int).k)).k)) (de_and (de_lele ((de_int).k) ((de_ix (dk_var (pv 0)) ((de_int).k)).k) ((de_int).k)) (de_one (de_lele ((de_int).k) ((de_ix (dk_var (pv 0)) ((de_int).k)).k) ((de_gintE (by rfl) T.g_MOST_BEATS).k)))))))
theorem sc_need_rules : FnScope n_need_rules ["rules"] (defScope s_need_rules) := ⟨rfl, rfl, rfl, by decide +kernel, rfl, by decide +kernel, by decide +kernel⟩
theorem c_need_rules (T : GT K mg) : Cal P w K mg base 3 "need_rules" 1 t f_need_rules :=
  Cal.of (k := 2) T.d_need_rules sc_need_rules (fun _ _ _ _ _ _ us hl => match us, hl with | [_], _ => rfl) fun f cdv A outer s H E hr =>
    dss_one (ds_for (passes_of rfl) rfl (di_en (by rfl) T.z_enumerate (da_cons (de_var (pv 0)) (da_nil))) (dg_tup rfl (dgs_cons (dg_name (i := 1) sc_need_rules.nd rfl (by first | exact Or.inl rfl | exact Or.inr rfl)) (dgs_cons (dg_name (i := 2) sc_need_rules.nd rfl (by first | exact Or.inl rfl | exact Or.inr rfl)) (dgs_nil))) (tk_cons (tk_cons (tk_nil)))) (dss_cons (ds_if (dt_w (dw_or (dt_eq hr.units (dk_var (pv 1)) ((de_gintE (by rfl) T.g_MOST_RULES).k)) (dw_or1 (dt_not (dt_val (de_callC (c_is_rule T) (hr.mono (by decide)) (by rfl) (takes_of rfl rfl rfl rfl) (da_cons (de_var (pv 2)) (da_nil)))))))) (dss_one (ds_never)) (dss_nil)) (dss_forget 1 (dss_forget 2 (dss_nil)))))
theorem sc_need_world : FnScope n_need_world ["world"] (defScope s_need_world) := ⟨rfl, rfl, rfl, by decide +kernel, rfl, by decide +kernel, by decide +kernel⟩
theorem c_need_world (T : GT K mg) : Cal P w K mg base 4 "need_world" 1 t f_need_world :=
  Cal.of (k := 3) T.d_need_world sc_need_world (fun _ _ _ _ _ _ us hl => match us, hl with | [_], _ => rfl) fun f cdv A outer s H E hr =>
    dss_cons (ds_asg (de_var (pv 0)) (dg_tup rfl (dgs_cons (dg_name (i := 1) sc_need_world.nd rfl (by first | exact Or.inl rfl | exact Or.inr rfl)) (dgs_cons (dg_name (i := 2) sc_need_world.nd rfl (by first | exact Or.inl rfl | exact Or.inr rfl)) (dgs_cons (dg_name (i := 3) sc_need_world.nd rfl (by first | exact Or.inl rfl | exact Or.inr rfl)) (dgs_nil)))) (tk_cons (tk_cons (tk_cons (tk_nil)))))) (dss_cons (ds_expr (de_callC (c_need_row T) (hr.mono (by decide)) (by rfl) (takes_of rfl rfl rfl rfl) (da_cons (de_var (pv 1)) (da_nil)))) (dss_cons (ds_expr (de_callC (c_need_bars T) (hr.mono (by decide)) (by rfl) (takes_of rfl rfl rfl rfl) (da_cons (de_var (pv 1)) (da_cons (de_var (pv 2)) (da_nil))))) (dss_one (ds_expr (de_callC (c_need_rules T) (hr.mono (by decide)) (by rfl) (takes_of rfl rfl rfl rfl) (da_cons (de_var (pv 3)) (da_nil)))))))
theorem sc_written : FnScope n_written ["world"] (defScope s_written) := ⟨rfl, rfl, rfl, by decide +kernel, rfl, by decide +kernel, by decide +kernel⟩
theorem c_written (T : GT K mg) : Cal P w K mg base 5 "written" 1 t f_written :=
  Cal.of (k := 4) T.d_written sc_written (fun _ _ _ _ _ _ us hl => match us, hl with | [_], _ => rfl) fun f cdv A outer s H E hr =>
    dss_cons (ds_expr (de_callC (c_need_world T) (hr.mono (by decide)) (by rfl) (takes_of rfl rfl rfl rfl) (da_cons (de_var (pv 0)) (da_nil)))) (dss_cons (ds_asg (de_var (pv 0)) (dg_tup rfl (dgs_cons (dg_name (i := 1) sc_written.nd rfl (by first | exact Or.inl rfl | exact Or.inr rfl)) (dgs_cons (dg_name (i := 2) sc_written.nd rfl (by first | exact Or.inl rfl | exact Or.inr rfl)) (dgs_cons (dg_name (i := 3) sc_written.nd rfl (by first | exact Or.inl rfl | exact Or.inr rfl)) (dgs_nil)))) (tk_cons (tk_cons (tk_cons (tk_nil)))))) (dss_cons (ds_setLc (k := 4) [("place", 5), ("kind", 6)] rfl sc_written.nd rfl rfl (sw_true rfl rfl rfl (by decide +kernel)) (di_en (by rfl) T.z_enumerate (da_cons (de_var (pv 1)) (da_nil))) (blkOk_by (N := n_written) (sc := defScope s_written) (by decide +kernel)) (fun _ _ _ _ _ => dg_tup rfl (dgs_cons (dg_name (i := 5) sc_written.nd rfl (by first | exact Or.inl rfl | exact Or.inr rfl)) (dgs_cons (dg_name (i := 6) sc_written.nd rfl (by first | exact Or.inl rfl | exact Or.inr rfl)) (dgs_nil))) (tk_cons (tk_cons (tk_nil)))) (fun _ _ _ _ _ => dts_nil) (fun _ _ _ _ _ => de_add (dk_var (pv 6)) ((de_if (dt_in (dk_var (pv 5)) (dk_var (pv 2))) (de_gstrE [124] (by rfl) T.g_BAR) (de_str [])).k))) (dss_cons (ds_set (i := 7) sc_written.nd rfl (by first | exact Or.inl rfl | exact Or.inr rfl) (dc_own (da_cons (de_join ((de_str []).k) (dk_var (pv 4))) (da_nil)))) (dss_cons (ds_for (passes_of rfl) rfl (di_any (de_var (pv 3))) (dg_tup rfl (dgs_cons (dg_name (i := 6) sc_written.nd rfl (by first | exact Or.inl rfl | exact Or.inr rfl)) (dgs_cons (dg_name (i := 8) sc_written.nd rfl (by first | exact Or.inl rfl | exact Or.inr rfl)) (dgs_cons (dg_name (i := 9) sc_written.nd rfl (by first | exact Or.inl rfl | exact Or.inr rfl)) (dgs_cons (dg_name (i := 10) sc_written.nd rfl (by first | exact Or.inl rfl | exact Or.inr rfl)) (dgs_cons (dg_name (i := 11) sc_written.nd rfl (by first | exact Or.inl rfl | exact Or.inr rfl)) (dgs_nil)))))) (tk_cons (tk_cons (tk_cons (tk_cons (tk_cons (tk_nil))))))) (dss_cons (ds_appD (i := 7) (pv 7) (de_join ((de_str [32]).k) ((de_lst (da_cons (de_gstrE [114, 117, 108, 101] (by rfl) T.g_RULE) (da_cons (de_var (pv 6)) (da_cons (de_var (pv 8)) (da_cons (de_text (by rfl) T.z_str (dk_var (pv 9))) (da_cons (de_text (by rfl) T.z_str (dk_var (pv 10))) (da_cons (de_var (pv 11)) (da_nil)))))))).k))) (dss_forget 8 (dss_forget 9 (dss_forget 10 (dss_forget 11 (dss_nil))))))) (dss_one (ds_ret (de_join ((de_str [10]).k) (dk_var (pv 7)))))))))
theorem sc_rule_of : FnScope n_rule_of ["words"] (defScope s_rule_of) := ⟨rfl, rfl, rfl, by decide +kernel, rfl, by decide +kernel, by decide +kernel⟩
theorem c_rule_of (T : GT K mg) : Cal P w K mg base 1 "rule_of" 1 t f_rule_of :=
  Cal.of (k := 0) T.d_rule_of sc_rule_of (fun _ _ _ _ _ _ us hl => match us, hl with | [_], _ => rfl) fun f cdv A outer s H E hr =>
    dss_cons (ds_if (dt_w (dw_or (dt_ne hr.units ((de_len (by rfl) T.z_len (dk_var (pv 0))).k) ((de_int).k)) (dw_or (dt_ne hr.units ((de_ix (dk_var (pv 0)) ((de_int).k)).k) ((de_gstrE [114, 117, 108, 101] (by rfl) T.g_RULE).k)) (dw_or1 (dt_not (dt_val (de_all rfl (by rfl) T.z_all ((de_lc [("word", 1)] rfl sc_rule_of.nd (di_any (de_sl (dk_var (pv 0)) (do_some ((de_int).k)) (do_none))) (blkOk_by (N := n_rule_of) (sc := defScope s_rule_of) (by decide +kernel)) (fun _ _ _ _ _ => dg_name (i := 1) sc_rule_of.nd rfl (by first | exact Or.inl rfl | exact Or.inr rfl)) (fun _ _ _ _ _ => dts_nil) (fun _ _ _ _ _ => de_eq hr.units ((de_len (by rfl) T.z_len (dk_var (pv 1))).k) ((de_int).k))).k)))))))) (dss_one (ds_ret (de_non))) (dss_nil)) (dss_cons (ds_if (dt_not (dt_val (de_all rfl (by rfl) T.z_all ((de_lc [("word", 1)] rfl sc_rule_of.nd (di_any (de_tup (da_cons (de_ix (dk_var (pv 0)) ((de_int).k)) (da_cons (de_ix (dk_var (pv 0)) ((de_int).k)) (da_cons (de_ix (dk_var (pv 0)) ((de_int).k)) (da_nil)))))) (blkOk_by (N := n_rule_of) (sc := defScope s_rule_of) (by decide +kernel)) (fun _ _ _ _ _ => dg_name (i := 1) sc_rule_of.nd rfl (by first | exact Or.inl rfl | exact Or.inr rfl)) (fun _ _ _ _ _ => dts_nil) (fun _ _ _ _ _ => de_in (dk_var (pv 1)) ((de_gstrE [97, 98, 99, 100, 101] (by rfl) T.g_KINDS).k))).k)))) (dss_one (ds_ret (de_non))) (dss_nil)) (dss_cons (ds_if (dt_not (dt_val (de_all rfl (by rfl) T.z_all ((de_lc [("word", 1)] rfl sc_rule_of.nd (di_any (de_sl (dk_var (pv 0)) (do_some ((de_int).k)) (do_some ((de_int).k)))) (blkOk_by (N := n_rule_of) (sc := defScope s_rule_of) (by decide +kernel)) (fun _ _ _ _ _ => dg_name (i := 1) sc_rule_of.nd rfl (by first | exact Or.inl rfl | exact Or.inr rfl)) (fun _ _ _ _ _ => dts_nil) (fun _ _ _ _ _ => de_in (dk_var (pv 1)) ((de_str [48, 49, 50, 51, 52, 53, 54, 55, 56, 57]).k))).k)))) (dss_one (ds_ret (de_non))) (dss_nil)) (dss_one (ds_ret (de_tup (da_cons (de_ix (dk_var (pv 0)) ((de_int).k)) (da_cons (de_ix (dk_var (pv 0)) ((de_int).k)) (da_cons (de_toInt (by rfl) T.z_int ((de_ix (dk_var (pv 0)) ((de_int).k)).k)) (da_cons (de_toInt (by rfl) T.z_int ((de_ix (dk_var (pv 0)) ((de_int).k)).k)) (da_cons (de_ix (dk_var (pv 0)) ((de_int).k)) (da_nil)))))))))))
theorem sc_read : FnScope n_read ["text"] (defScope s_read) := ⟨rfl, rfl, rfl, by decide +kernel, rfl, by decide +kernel, by decide +kernel⟩
theorem c_read (T : GT K mg) : Cal P w K mg base 5 "read" 1 t f_read :=
  Cal.of (k := 4) T.d_read sc_read (fun _ _ _ _ _ _ us hl => match us, hl with | [_], _ => rfl) fun f cdv A outer s H E hr =>
    dss_cons (ds_set (i := 1) sc_read.nd rfl (by first | exact Or.inl rfl | exact Or.inr rfl) (dc_val (de_split (dk_var (pv 0)) ((de_str [10]).k)))) (dss_cons (ds_par (i := 2) (j := 3) rfl sc_read.nd rfl rfl (by decide) rfl rfl (dc_val (de_str [])) (dc_own (da_nil)) (by rfl)) (dss_cons (ds_for (passes_of rfl) rfl (di_any (de_ix (dk_var (pv 1)) ((de_int).k))) (dg_name (i := 4) sc_read.nd rfl (by first | exact Or.inl rfl | exact Or.inr rfl)) (dss_cons (ds_if (dt_w (dw_and (dt_eq hr.units (dk_var (pv 4)) ((de_gstrE [124] (by rfl) T.g_BAR).k)) (dw_and (dt_ne hr.units (dk_var (pv 2)) ((de_str []).k)) (dw_and1 (dt_nin ((de_sub ((de_len (by rfl) T.z_len (dk_var (pv 2))).k) ((de_int).k)).k) (dk_var (pv 3))))))) (dss_one (ds_appD (i := 3) (pv 3) (de_sub ((de_len (by rfl) T.z_len (dk_var (pv 2))).k) ((de_int).k)))) (dss_one (ds_if (dt_in (dk_var (pv 4)) ((de_gstrE [97, 98, 99, 100, 101] (by rfl) T.g_KINDS).k)) (dss_one (ds_set (i := 2) sc_read.nd rfl (by first | exact Or.inl rfl | exact Or.inr rfl) (dc_val (de_add (dk_var (pv 2)) (dk_var (pv 4)))))) (dss_one (ds_never))))) (dss_forget 4 (dss_nil)))) (dss_cons (ds_set (i := 5) sc_read.nd rfl (by first | exact Or.inl rfl | exact Or.inr rfl) (dc_own (da_nil))) (dss_cons (ds_for (passes_of rfl) rfl (di_en (by rfl) T.z_enumerate (da_cons (de_sl (dk_var (pv 1)) (do_some ((de_int).k)) (do_none)) (da_nil))) (dg_tup rfl (dgs_cons (dg_name (i := 6) sc_read.nd rfl (by first | exact Or.inl rfl | exact Or.inr rfl)) (dgs_cons (dg_name (i := 7) sc_read.nd rfl (by first | exact Or.inl rfl | exact Or.inr rfl)) (dgs_nil))) (tk_cons (tk_cons (tk_nil)))) (dss_cons (ds_set (i := 8) sc_read.nd rfl (by first | exact Or.inl rfl | exact Or.inr rfl) (dc_val (de_callC (c_rule_of T) (hr.mono (by decide)) (by rfl) (takes_of rfl rfl rfl rfl) (da_cons (de_split (dk_var (pv 7)) ((de_str [32]).k)) (da_nil))))) (dss_cons (ds_if (dt_is (dk_var (pv 8)) ((de_non).k)) (dss_one (ds_never)) (dss_nil)) (dss_cons (ds_appD (i := 5) (pv 5) (de_var (pv 8))) (dss_forget 6 (dss_forget 7 (dss_forget 8 (dss_nil)))))))) (dss_cons (ds_set (i := 9) sc_read.nd rfl (by first | exact Or.inl rfl | exact Or.inr rfl) (dc_val (de_tup (da_cons (de_var (pv 2)) (da_cons (de_tuple (by rfl) T.z_tuple (dk_var (pv 3))) (da_cons (de_tuple (by rfl) T.z_tuple (dk_var (pv 5))) (da_nil))))))) (dss_cons (ds_expr (de_callC (c_need_world T) (hr.mono (by decide)) (by rfl) (takes_of rfl rfl rfl rfl) (da_cons (de_var (pv 9)) (da_nil)))) (dss_one (ds_ret (de_var (pv 9))))))))))
def n__law_next : List Str := ["_law_h", "_law_many", "_law_cell"]
theorem sc__law_next : FnScope n__law_next ["_law_h", "_law_many"] (defScope s__law_next) := ⟨rfl, rfl, rfl, by decide +kernel, rfl, by decide +kernel, by decide +kernel⟩
theorem c__law_next (T : GT K mg) : Cal P w K mg base 1 "_law_next" 2 t f__law_next :=
  Cal.raw (k := 0) (tt := t_next K) T.d__law_next sc__law_next (fun _ _ _ _ _ _ us hl => match us, hl with | [_, _], _ => rfl) (fun f cdv A outer s H E hr =>
    pss_cons (ps_set (i := 2) sc__law_next.nd rfl (Or.inl rfl) (pe_ix ix_list (pe_op op_cat (pe_ix ix_list (pv 0) pe_int (fun _ _ => rfl)) (pe_lst (pa_cons pe_int pa_nil))) (pe_op op_mod (pe_ix ix_list (pv 0) pe_int (fun _ _ => rfl)) (pe_callB (call_max2 rfl) (by rfl) T.z_max PyProof.Rows.boot_max (pa_cons pe_int (pa_cons (pe_callB call_len (by rfl) T.z_len PySem.boot_len (pa_cons (pe_ix ix_list (pv 0) pe_int (fun _ _ => rfl)) pa_nil)) pa_nil)))) (fun _ _ => rfl)))
    (pss_cons (ps_if (pt_cmpR op_ge (pv 2) (pe_op op_pow pe_int pe_int) (nomark _)) (pss_cons (ps_asg (pe_op op_fdiv (pv 2) (pv 1)) (pg_sub (pe_ix ix_list (pv 0) pe_int (fun _ _ => rfl)) (pe_op op_mod (pe_ix ix_list (pv 0) pe_int (fun _ _ => rfl)) (pe_callB call_len (by rfl) T.z_len PySem.boot_len (pa_cons (pe_ix ix_list (pv 0) pe_int (fun _ _ => rfl)) pa_nil))) set_list)) (pss_one (ps_ret (pe_op op_mod (pv 2) (pv 1))))) pss_nil)
    (pss_cons (ps_asg (pe_op op_mod (pe_op op_add (pe_op op_add (pe_op op_mul (pe_ix ix_list (pv 0) pe_int (fun _ _ => rfl)) pe_int) (pe_op op_mul (pv 2) pe_int)) pe_int) pe_int) (pg_sub (pv 0) pe_int set_list))
    (pss_cons (ps_asg (pe_op op_add (pe_ix ix_list (pv 0) pe_int (fun _ _ => rfl)) pe_int) (pg_sub (pv 0) pe_int set_list))
    (pss_one (ps_ret (pe_op op_mod (pe_op op_fdiv (pe_ix ix_list (pv 0) pe_int (fun _ _ => rfl)) pe_int) (pv 1)))))))) fun vs H Q E h => pure_next _ rfl vs H Q E h
theorem sc__law_alike : FnScope n__law_alike ["_law_found", "_law_due"] (defScope s__law_alike) := ⟨rfl, rfl, rfl, by decide +kernel, rfl, by decide +kernel, by decide +kernel⟩
theorem c__law_alike (T : GT K mg) : Cal P w K mg base 8 "_law_alike" 2 t f__law_alike :=
  Cal.recur (j := 0) (Cal.mono (Cal.none T.d__law_alike (ps := ["_law_found", "_law_due"]) (fun _ _ _ _ _ _ us hl => match us, hl with | [_, _], _ => rfl)) (Nat.zero_le _)) (fun k φ hk C0 => Cal.of T.d__law_alike sc__law_alike (fun _ _ _ _ _ _ us hl => match us, hl with | [_, _], _ => rfl) fun f cdv A outer s H E hr0 => by
    have hr := hr0.mono hk
    exact dss_cons (ds_if (dt_val (de_isi (by rfl) T.z_isinstance (dk_var (pv 1)) ((de_tup (da_cons (de_ty (by rfl) T.z_tuple PyProof.Rows.boot_tuple) (da_cons (de_ty (by rfl) T.z_list PyProof.Rows.boot_list) (da_nil)))).k))) (dss_cons (ds_if (dt_w (dw_or (dt_not (dt_val (de_isi (by rfl) T.z_isinstance (dk_var (pv 0)) ((de_tup (da_cons (de_ty (by rfl) T.z_tuple PyProof.Rows.boot_tuple) (da_cons (de_ty (by rfl) T.z_list PyProof.Rows.boot_list) (da_nil)))).k)))) (dw_or1 (dt_ne hr.units ((de_isi (by rfl) T.z_isinstance (dk_var (pv 0)) ((de_ty (by rfl) T.z_list PyProof.Rows.boot_list).k)).k) ((de_isi (by rfl) T.z_isinstance (dk_var (pv 1)) ((de_ty (by rfl) T.z_list PyProof.Rows.boot_list).k)).k))))) (dss_one (ds_ret (de_bl))) (dss_nil)) (dss_cons (ds_if (dt_ne hr.units ((de_len (by rfl) T.z_len (dk_var (pv 0))).k) ((de_len (by rfl) T.z_len (dk_var (pv 1))).k)) (dss_one (ds_ret (de_bl))) (dss_nil)) (dss_one (ds_ret (de_eq hr.units ((de_lc [("_law_k", 2)] rfl sc__law_alike.nd (di_range (by rfl) T.z_range (da_cons (de_len (by rfl) T.z_len (dk_var (pv 1))) (da_nil))) (blkOk_by (N := n__law_alike) (sc := defScope s__law_alike) (by decide +kernel)) (fun _ _ _ _ _ => dg_name (i := 2) sc__law_alike.nd rfl (by first | exact Or.inl rfl | exact Or.inr rfl)) (fun _ _ _ _ _ => dts_one (dt_not (dt_val (de_callC C0 hr0 (by rfl) takes0 (da_cons (de_ix (dk_var (pv 0)) (dk_var (pv 2))) (da_cons (de_ix (dk_var (pv 1)) (dk_var (pv 2))) (da_nil))))))) (fun _ _ _ _ _ => de_var (pv 2))).k) ((de_lst (da_nil)).k)))))) (dss_nil)) (dss_cons (ds_if (dt_w (dw_or (dt_is (dk_var (pv 1)) ((de_non).k)) (dw_or1 (dt_val (de_isi (by rfl) T.z_isinstance (dk_var (pv 1)) ((de_ty (by rfl) T.z_str PyProof.Rows.boot_str).k)))))) (dss_one (ds_ret (de_and (de_eq hr.units (dk_var (pv 0)) (dk_var (pv 1))) (de_one (de_eq hr.units ((de_isi (by rfl) T.z_isinstance (dk_var (pv 0)) ((de_ty (by rfl) T.z_str PyProof.Rows.boot_str).k)).k) ((de_isi (by rfl) T.z_isinstance (dk_var (pv 1)) ((de_ty (by rfl) T.z_str PyProof.Rows.boot_str).k)).k)))))) (dss_nil)) (dss_one (ds_ret (de_and (de_isi (by rfl) T.z_isinstance (dk_var (pv 0)) ((de_ty (by rfl) T.z_int PyProof.Rows.boot_int).k)) (de_and (de_eq hr.units ((de_isi (by rfl) T.z_isinstance (dk_var (pv 0)) ((de_ty (by rfl) T.z_bool PyProof.Rows.boot_bool).k)).k) ((de_isi (by rfl) T.z_isinstance (dk_var (pv 1)) ((de_ty (by rfl) T.z_bool PyProof.Rows.boot_bool).k)).k)) (de_one (de_eq hr.units (dk_var (pv 0)) (dk_var (pv 1)))))))))) 8
theorem sc__law_rules : FnScope n__law_rules ["_law_h", "_law_kinds", "_law_many"] (defScope s__law_rules) := ⟨rfl, rfl, rfl, by decide +kernel, rfl, by decide +kernel, by decide +kernel⟩
theorem c__law_rules (T : GT K mg) : Cal P w K mg base 2 "_law_rules" 3 t f__law_rules :=
  Cal.of (k := 1) T.d__law_rules sc__law_rules (fun _ _ _ _ _ _ us hl => match us, hl with | [_, _, _], _ => rfl) fun f cdv A outer s H E hr =>
    dss_cons (ds_set (i := 3) sc__law_rules.nd rfl (by first | exact Or.inl rfl | exact Or.inr rfl) (dc_own (da_nil))) (dss_cons (ds_for (passes_of rfl) rfl (di_range (by rfl) T.z_range (da_cons (de_callC (c__law_next T) (hr.mono (by decide)) (by rfl) (takes_of rfl rfl rfl rfl) (da_cons (de_var (pv 0)) (da_cons (de_add (dk_var (pv 2)) ((de_int).k)) (da_nil)))) (da_nil))) (dg_name (i := 4) sc__law_rules.nd rfl (by first | exact Or.inl rfl | exact Or.inr rfl)) (dss_strike (L := [97, 98, 99, 100, 101]) (i := 5) (j := 6) (l := 7) (by decide +kernel) (by decide +kernel) (by decide +kernel) (by decide) rfl sc__law_rules.nd rfl rfl rfl (by decide) rfl rfl rfl (fun _ _ => rfl) (fun _ _ => rfl) ((de_callC (c__law_next T) (hr.mono (by decide)) (by rfl) (takes_of rfl rfl rfl rfl) (da_cons (de_var (pv 0)) (da_cons (de_var (pv 1)) (da_nil)))).k) (de_ix ((de_str [97, 98, 99, 100, 101]).k) ((de_callC (c__law_next T) (hr.mono (by decide)) (by rfl) (takes_of rfl rfl rfl rfl) (da_cons (de_var (pv 0)) (da_cons (de_var (pv 1)) (da_nil)))).k)) ((de_callC (c__law_next T) (hr.mono (by decide)) (by rfl) (takes_of rfl rfl rfl rfl) (da_cons (de_var (pv 0)) (da_cons (de_max rfl (by rfl) T.z_max ((de_int).k) ((de_sub (dk_var (pv 1)) ((de_int).k)).k)) (da_nil)))).k) (dss_cons (ds_appD (i := 3) (pv 3) (de_tup (da_cons (de_var (pv 5)) (da_cons (de_var (pv 6)) (da_cons (de_add ((de_int).k) ((de_div ((de_callC (c__law_next T) (hr.mono (by decide)) (by rfl) (takes_of rfl rfl rfl rfl) (da_cons (de_var (pv 0)) (da_cons (de_int) (da_nil)))).k) ((de_int).k)).k)) (da_cons (de_add ((de_int).k) ((de_mul ((de_callC (c__law_next T) (hr.mono (by decide)) (by rfl) (takes_of rfl rfl rfl rfl) (da_cons (de_var (pv 0)) (da_cons (de_int) (da_nil)))).k) ((de_callC (c__law_next T) (hr.mono (by decide)) (by rfl) (takes_of rfl rfl rfl rfl) (da_cons (de_var (pv 0)) (da_cons (de_int) (da_nil)))).k)).k)) (da_cons (de_var (pv 7)) (da_nil)))))))) (dss_forget 4 (dss_forget 5 (dss_forget 6 (dss_forget 7 (dss_nil)))))) (by rfl))) (dss_one (ds_ret (de_tuple (by rfl) T.z_tuple (dk_var (pv 3))))))
theorem sc__law_world : FnScope n__law_world ["_law_h", "_law_jars", "_law_kinds", "_law_many"] (defScope s__law_world) := ⟨rfl, rfl, rfl, by decide +kernel, rfl, by decide +kernel, by decide +kernel⟩
theorem c__law_world (T : GT K mg) : Cal P w K mg base 3 "_law_world" 4 t f__law_world :=
  Cal.of (k := 2) T.d__law_world sc__law_world (fun _ _ _ _ _ _ us hl => match us, hl with | [_, _, _, _], _ => rfl) fun f cdv A outer s H E hr =>
    dss_cons (ds_set (i := 4) sc__law_world.nd rfl (by first | exact Or.inl rfl | exact Or.inr rfl) (dc_val (de_join ((de_str []).k) ((de_lc [("_law_k", 5)] rfl sc__law_world.nd (di_range (by rfl) T.z_range (da_cons (de_add ((de_int).k) ((de_callC (c__law_next T) (hr.mono (by decide)) (by rfl) (takes_of rfl rfl rfl rfl) (da_cons (de_var (pv 0)) (da_cons (de_var (pv 1)) (da_nil)))).k)) (da_nil))) (blkOk_by (N := n__law_world) (sc := defScope s__law_world) (by decide +kernel)) (fun _ _ _ _ _ => dg_name (i := 5) sc__law_world.nd rfl (by first | exact Or.inl rfl | exact Or.inr rfl)) (fun _ _ _ _ _ => dts_nil) (fun _ _ _ _ _ => de_ix ((de_str [97, 98, 99, 100, 101]).k) ((de_callC (c__law_next T) (hr.mono (by decide)) (by rfl) takes0 (da_cons (de_var (pv 0)) (da_cons (de_var (pv 2)) (da_nil)))).k))).k)))) (dss_cons (ds_set (i := 6) sc__law_world.nd rfl (by first | exact Or.inl rfl | exact Or.inr rfl) (dc_val (de_tuple (by rfl) T.z_tuple ((de_lc [("_law_gap", 7)] rfl sc__law_world.nd (di_range (by rfl) T.z_range (da_cons (de_sub ((de_len (by rfl) T.z_len (dk_var (pv 4))).k) ((de_int).k)) (da_nil))) (blkOk_by (N := n__law_world) (sc := defScope s__law_world) (by decide +kernel)) (fun _ _ _ _ _ => dg_name (i := 7) sc__law_world.nd rfl (by first | exact Or.inl rfl | exact Or.inr rfl)) (fun _ _ _ _ _ => dts_one (dt_eq hr.units ((de_callC (c__law_next T) (hr.mono (by decide)) (by rfl) takes0 (da_cons (de_var (pv 0)) (da_cons (de_int) (da_nil)))).k) ((de_int).k))) (fun _ _ _ _ _ => de_var (pv 7))).k)))) (dss_one (ds_ret (de_tup (da_cons (de_var (pv 4)) (da_cons (de_var (pv 6)) (da_cons (de_callC (c__law_rules T) (hr.mono (by decide)) (by rfl) (takes_of rfl rfl rfl rfl) (da_cons (de_var (pv 0)) (da_cons (de_var (pv 2)) (da_cons (de_var (pv 3)) (da_nil))))) (da_nil))))))))
theorem sc__law_text : FnScope n__law_text ["_law_world_here"] (defScope s__law_text) := ⟨rfl, rfl, rfl, by decide +kernel, rfl, by decide +kernel, by decide +kernel⟩
theorem c__law_text (T : GT K mg) : Cal P w K mg base 1 "_law_text" 1 t f__law_text :=
  Cal.of (k := 0) T.d__law_text sc__law_text (fun _ _ _ _ _ _ us hl => match us, hl with | [_], _ => rfl) fun f cdv A outer s H E hr =>
    dss_cons (ds_asg (de_var (pv 0)) (dg_tup rfl (dgs_cons (dg_name (i := 1) sc__law_text.nd rfl (by first | exact Or.inl rfl | exact Or.inr rfl)) (dgs_cons (dg_name (i := 2) sc__law_text.nd rfl (by first | exact Or.inl rfl | exact Or.inr rfl)) (dgs_cons (dg_name (i := 3) sc__law_text.nd rfl (by first | exact Or.inl rfl | exact Or.inr rfl)) (dgs_nil)))) (tk_cons (tk_cons (tk_cons (tk_nil)))))) (dss_cons (ds_set (i := 4) sc__law_text.nd rfl (by first | exact Or.inl rfl | exact Or.inr rfl) (dc_own (da_cons (de_join ((de_str []).k) ((de_lc [("_law_k", 5)] rfl sc__law_text.nd (di_range (by rfl) T.z_range (da_cons (de_len (by rfl) T.z_len (dk_var (pv 1))) (da_nil))) (blkOk_by (N := n__law_text) (sc := defScope s__law_text) (by decide +kernel)) (fun _ _ _ _ _ => dg_name (i := 5) sc__law_text.nd rfl (by first | exact Or.inl rfl | exact Or.inr rfl)) (fun _ _ _ _ _ => dts_nil) (fun _ _ _ _ _ => de_add ((de_ix (dk_var (pv 1)) (dk_var (pv 5))).k) ((de_mul ((de_str [124]).k) ((de_toInt (by rfl) T.z_int ((de_in (dk_var (pv 5)) (dk_var (pv 2))).k)).k)).k))).k)) (da_nil)))) (dss_cons (ds_for (passes_of rfl) rfl (di_any (de_var (pv 3))) (dg_name (i := 6) sc__law_text.nd rfl (by first | exact Or.inl rfl | exact Or.inr rfl)) (dss_cons (ds_appD (i := 4) (pv 4) (de_join ((de_str [32]).k) ((de_add ((de_lst (da_cons (de_str [114, 117, 108, 101]) (da_nil))).k) ((de_lc [("_law_part", 7)] rfl sc__law_text.nd (di_any (de_var (pv 6))) (blkOk_by (N := n__law_text) (sc := defScope s__law_text) (by decide +kernel)) (fun _ _ _ _ _ => dg_name (i := 7) sc__law_text.nd rfl (by first | exact Or.inl rfl | exact Or.inr rfl)) (fun _ _ _ _ _ => dts_nil) (fun _ _ _ _ _ => de_text (by rfl) T.z_str (dk_var (pv 7)))).k)).k))) (dss_forget 6 (dss_nil)))) (dss_one (ds_ret (de_join ((de_str [10]).k) (dk_var (pv 4)))))))
def n__law_mix : List Str := ["_law_script", "_law_seed", "_law_mixed", "_law_cell"]
theorem sc__law_mix : FnScope n__law_mix ["_law_script", "_law_seed"] (defScope s__law_mix) := ⟨rfl, rfl, rfl, by decide +kernel, rfl, by decide +kernel, by decide +kernel⟩
theorem c__law_mix (T : GT K mg) : MixOk P w K mg base 1 "_law_mix" :=
  MixOk.of (k := 0) T.d__law_mix sc__law_mix (fun _ _ _ _ _ _ us hl => match us, hl with | [_, _], _ => rfl) rfl rfl fun f cdv A outer s H E hr =>
    pss_cons (ps_set (i := 2) sc__law_mix.nd rfl (Or.inl rfl) (pv 1)) (pss_cons (ps_for (passes_of rfl) rfl (pi_list (pv 0)) (pg_name (i := 3) sc__law_mix.nd rfl (Or.inl rfl)) (pss_one (ps_set (i := 2) sc__law_mix.nd rfl (Or.inl rfl) (pe_op op_mod (pe_op op_add (pe_op op_add (pe_op op_mul (pv 2) pe_int) (pe_op op_mod (pv 3) pe_int)) pe_int) pe_int))))
    (pss_one (ps_ret (pe_lst (pa_cons (pv 2) (pa_cons (pe_callTy call_list_of (by rfl) T.z_list PyProof.Rows.boot_list (pa_cons (pv 0) pa_nil)) (pa_cons pe_int pa_nil)))))))
theorem sc_law : FnScope n_law ["_law_script"] (defScope s_law) := ⟨rfl, rfl, rfl, by decide +kernel, rfl, by decide +kernel, by decide +kernel⟩
theorem law_body (T : GT K mg) {f : Addr} (cdv : Value) (A : Around) (outer : List PySem.Env) (s : Shared) (H : Hp) (E : XK) (hr : Room 8 (A.deeper (envOfC "law" (defScope s_law) s.heap.objs.size f cdv))) : PSs (cxOf (L2.CX P w) P w K mg base n_law "law" (defScope s_law) f cdv A outer s H E) (defBody s_law) (tSeq (tAsg (tCallS (spMix K) (WE (t.wi E).W) (tCons (tVar 0) (tCons (tC (.int 29)) tNil))) (L2.gName 1)) (rdS (t.wi E) b_law)) :=
  pss_mix (c__law_mix T) (hr.mono (by decide)) (takes_of rfl rfl rfl rfl) (by rfl) sc_law.nd (pv 0) rfl (by first | exact Or.inl rfl | exact Or.inr rfl)
    (dss_cons (ds_for (passes_of rfl) rfl (di_range (by rfl) T.z_range (da_cons (de_int) (da_nil))) (dg_name (i := 2) sc_law.nd rfl (by first | exact Or.inl rfl | exact Or.inr rfl)) (dss_cons (ds_set (i := 3) sc_law.nd rfl (by first | exact Or.inl rfl | exact Or.inr rfl) (dc_val (de_callC (c__law_world T) (hr.mono (by decide)) (by rfl) (takes_of rfl rfl rfl rfl) (da_cons (de_var (pv 1)) (da_cons (de_int) (da_cons (de_int) (da_cons (de_int) (da_nil)))))))) (dss_cons (ds_set (i := 4) sc_law.nd rfl (by first | exact Or.inl rfl | exact Or.inr rfl) (dc_val (de_callC (c__law_text T) (hr.mono (by decide)) (by rfl) (takes_of rfl rfl rfl rfl) (da_cons (de_var (pv 3)) (da_nil))))) (dss_cons (ds_if (dt_w (dw_or (dt_ne hr.units ((de_callC (c_written T) (hr.mono (by decide)) (by rfl) (takes_of rfl rfl rfl rfl) (da_cons (de_var (pv 3)) (da_nil))).k) (dk_var (pv 4))) (dw_or1 (dt_not (dt_val (de_callC (c__law_alike T) (hr.mono (by decide)) (by rfl) (takes_of rfl rfl rfl rfl) (da_cons (de_callC (c_read T) (hr.mono (by decide)) (by rfl) (takes_of rfl rfl rfl rfl) (da_cons (de_var (pv 4)) (da_nil))) (da_cons (de_var (pv 3)) (da_nil))))))))) (dss_one (ds_ret (de_bl))) (dss_nil)) (dss_cons (ds_set (i := 5) sc_law.nd rfl (by first | exact Or.inl rfl | exact Or.inr rfl) (dc_val (de_callC (c__law_next T) (hr.mono (by decide)) (by rfl) (takes_of rfl rfl rfl rfl) (da_cons (de_var (pv 1)) (da_cons (de_add ((de_len (by rfl) T.z_len ((de_ix (dk_var (pv 3)) ((de_int).k)).k)).k) ((de_int).k)) (da_nil)))))) (dss_cons (ds_set (i := 6) sc_law.nd rfl (by first | exact Or.inl rfl | exact Or.inr rfl) (dc_val (de_sl ((de_split (dk_var (pv 4)) ((de_str [10]).k)).k) (do_none) (do_some ((de_add ((de_int).k) (dk_var (pv 5))).k))))) (dss_cons (ds_if (dt_not (dt_val (de_callC (c__law_alike T) (hr.mono (by decide)) (by rfl) (takes_of rfl rfl rfl rfl) (da_cons (de_callC (c_read T) (hr.mono (by decide)) (by rfl) (takes_of rfl rfl rfl rfl) (da_cons (de_join ((de_str [10]).k) (dk_var (pv 6))) (da_nil))) (da_cons (de_add ((de_sl (dk_var (pv 3)) (do_none) (do_some ((de_int).k))).k) ((de_tup (da_cons (de_sl ((de_ix (dk_var (pv 3)) ((de_int).k)).k) (do_none) (do_some (dk_var (pv 5)))) (da_nil))).k)) (da_nil)))))) (dss_one (ds_ret (de_bl))) (dss_nil)) (dss_forget 2 (dss_forget 3 (dss_forget 4 (dss_forget 5 (dss_forget 6 (dss_nil))))))))))))) (dss_one (ds_ret (de_bl))))
theorem law_c {t : Tf} (T : GT K mg) (h : LawOk n_law 29 b_law) {f : Addr} {fd : FuncData} (F : Fun K "law" "law" s_law f fd) : FnOk P w K mg base (L2.CX P w) 9 f fd ["_law_script"] (spLaw K) :=
  law_fn (t := t) F sc_law h (by decide) fun cdv A outer s H E hr => law_body T cdv A outer s H E hr
end
theorem all_mk {l : PySem.W.OpenLaw} {w : World} {K : PySem.W.Frag} {h : Heap} {mg : Str → Option Value} {fa : Addr} (X : K.In h) (G : h.Ns mainGlobals mg) (hfa : mg "law" = some (.ref fa))
    {f0 : Addr} {od0 an0 : Option Addr} {sl0 : Array (Option Value)} {oc0 kV0 dc0 pm0 cd0 ct0 : Value}
    {f1 : Addr} {od1 an1 : Option Addr} {sl1 : Array (Option Value)} {oc1 kV1 dc1 pm1 cd1 ct1 : Value}
    {f2 : Addr} {od2 an2 : Option Addr} {sl2 : Array (Option Value)} {oc2 kV2 dc2 pm2 cd2 ct2 : Value}
    {f3 : Addr} {od3 an3 : Option Addr} {sl3 : Array (Option Value)} {oc3 kV3 dc3 pm3 cd3 ct3 : Value}
    {f4 : Addr} {od4 an4 : Option Addr} {sl4 : Array (Option Value)} {oc4 kV4 dc4 pm4 cd4 ct4 : Value}
    {f5 : Addr} {od5 an5 : Option Addr} {sl5 : Array (Option Value)} {oc5 kV5 dc5 pm5 cd5 ct5 : Value}
    {f6 : Addr} {od6 an6 : Option Addr} {sl6 : Array (Option Value)} {oc6 kV6 dc6 pm6 cd6 ct6 : Value}
    {f7 : Addr} {od7 an7 : Option Addr} {sl7 : Array (Option Value)} {oc7 kV7 dc7 pm7 cd7 ct7 : Value}
    {f8 : Addr} {od8 an8 : Option Addr} {sl8 : Array (Option Value)} {oc8 kV8 dc8 pm8 cd8 ct8 : Value}
    {f9 : Addr} {od9 an9 : Option Addr} {sl9 : Array (Option Value)} {oc9 kV9 dc9 pm9 cd9 ct9 : Value}
    {f10 : Addr} {od10 an10 : Option Addr} {sl10 : Array (Option Value)} {oc10 kV10 dc10 pm10 cd10 ct10 : Value}
    {f11 : Addr} {od11 an11 : Option Addr} {sl11 : Array (Option Value)} {oc11 kV11 dc11 pm11 cd11 ct11 : Value}
    {f12 : Addr} {od12 an12 : Option Addr} {sl12 : Array (Option Value)} {oc12 kV12 dc12 pm12 cd12 ct12 : Value}
    {f13 : Addr} {od13 an13 : Option Addr} {sl13 : Array (Option Value)} {oc13 kV13 dc13 pm13 cd13 ct13 : Value}
    {f14 : Addr} {od14 an14 : Option Addr} {sl14 : Array (Option Value)} {oc14 kV14 dc14 pm14 cd14 ct14 : Value}
    {f15 : Addr} {od15 an15 : Option Addr} {sl15 : Array (Option Value)} {oc15 kV15 dc15 pm15 cd15 ct15 : Value}
    {t_BAR : Tok}
    {t_KINDS : Tok}
    {t_MOST_BEATS : Tok}
    {t_MOST_JARS : Tok}
    {t_MOST_RULES : Tok}
    {t_RULE : Tok}
    (a0 : PySem.W.nsIn K mainGlobals "need_row" = some (some (.ref f0))) (l0 : K.lookup f0 = some ⟨oc0, od0, .func (PySem.W.fnOf "need_row" "need_row" (defArgs s_need_row) (defBody s_need_row) (defScope s_need_row) .none kV0 dc0 pm0 an0 cd0 ct0), sl0⟩) (c0 : PySem.W.codeIn K cd0 "need_row" = true) (k0 : PySem.W.keepIn K (.ref f0) = true)
    (a1 : PySem.W.nsIn K mainGlobals "need_bars" = some (some (.ref f1))) (l1 : K.lookup f1 = some ⟨oc1, od1, .func (PySem.W.fnOf "need_bars" "need_bars" (defArgs s_need_bars) (defBody s_need_bars) (defScope s_need_bars) .none kV1 dc1 pm1 an1 cd1 ct1), sl1⟩) (c1 : PySem.W.codeIn K cd1 "need_bars" = true) (k1 : PySem.W.keepIn K (.ref f1) = true)
    (a2 : PySem.W.nsIn K mainGlobals "is_kind" = some (some (.ref f2))) (l2 : K.lookup f2 = some ⟨oc2, od2, .func (PySem.W.fnOf "is_kind" "is_kind" (defArgs s_is_kind) (defBody s_is_kind) (defScope s_is_kind) .none kV2 dc2 pm2 an2 cd2 ct2), sl2⟩) (c2 : PySem.W.codeIn K cd2 "is_kind" = true) (k2 : PySem.W.keepIn K (.ref f2) = true)
    (a3 : PySem.W.nsIn K mainGlobals "is_rule" = some (some (.ref f3))) (l3 : K.lookup f3 = some ⟨oc3, od3, .func (PySem.W.fnOf "is_rule" "is_rule" (defArgs s_is_rule) (defBody s_is_rule) (defScope s_is_rule) .none kV3 dc3 pm3 an3 cd3 ct3), sl3⟩) (c3 : PySem.W.codeIn K cd3 "is_rule" = true) (k3 : PySem.W.keepIn K (.ref f3) = true)
    (a4 : PySem.W.nsIn K mainGlobals "need_rules" = some (some (.ref f4))) (l4 : K.lookup f4 = some ⟨oc4, od4, .func (PySem.W.fnOf "need_rules" "need_rules" (defArgs s_need_rules) (defBody s_need_rules) (defScope s_need_rules) .none kV4 dc4 pm4 an4 cd4 ct4), sl4⟩) (c4 : PySem.W.codeIn K cd4 "need_rules" = true) (k4 : PySem.W.keepIn K (.ref f4) = true)
    (a5 : PySem.W.nsIn K mainGlobals "need_world" = some (some (.ref f5))) (l5 : K.lookup f5 = some ⟨oc5, od5, .func (PySem.W.fnOf "need_world" "need_world" (defArgs s_need_world) (defBody s_need_world) (defScope s_need_world) .none kV5 dc5 pm5 an5 cd5 ct5), sl5⟩) (c5 : PySem.W.codeIn K cd5 "need_world" = true) (k5 : PySem.W.keepIn K (.ref f5) = true)
    (a6 : PySem.W.nsIn K mainGlobals "written" = some (some (.ref f6))) (l6 : K.lookup f6 = some ⟨oc6, od6, .func (PySem.W.fnOf "written" "written" (defArgs s_written) (defBody s_written) (defScope s_written) .none kV6 dc6 pm6 an6 cd6 ct6), sl6⟩) (c6 : PySem.W.codeIn K cd6 "written" = true) (k6 : PySem.W.keepIn K (.ref f6) = true)
    (a7 : PySem.W.nsIn K mainGlobals "rule_of" = some (some (.ref f7))) (l7 : K.lookup f7 = some ⟨oc7, od7, .func (PySem.W.fnOf "rule_of" "rule_of" (defArgs s_rule_of) (defBody s_rule_of) (defScope s_rule_of) .none kV7 dc7 pm7 an7 cd7 ct7), sl7⟩) (c7 : PySem.W.codeIn K cd7 "rule_of" = true) (k7 : PySem.W.keepIn K (.ref f7) = true)
    (a8 : PySem.W.nsIn K mainGlobals "read" = some (some (.ref f8))) (l8 : K.lookup f8 = some ⟨oc8, od8, .func (PySem.W.fnOf "read" "read" (defArgs s_read) (defBody s_read) (defScope s_read) .none kV8 dc8 pm8 an8 cd8 ct8), sl8⟩) (c8 : PySem.W.codeIn K cd8 "read" = true) (k8 : PySem.W.keepIn K (.ref f8) = true)
    (a9 : PySem.W.nsIn K mainGlobals "_law_next" = some (some (.ref f9))) (l9 : K.lookup f9 = some ⟨oc9, od9, .func (PySem.W.fnOf "_law_next" "_law_next" (defArgs s__law_next) (defBody s__law_next) (defScope s__law_next) .none kV9 dc9 pm9 an9 cd9 ct9), sl9⟩) (c9 : PySem.W.codeIn K cd9 "_law_next" = true) (k9 : PySem.W.keepIn K (.ref f9) = true)
    (a10 : PySem.W.nsIn K mainGlobals "_law_alike" = some (some (.ref f10))) (l10 : K.lookup f10 = some ⟨oc10, od10, .func (PySem.W.fnOf "_law_alike" "_law_alike" (defArgs s__law_alike) (defBody s__law_alike) (defScope s__law_alike) .none kV10 dc10 pm10 an10 cd10 ct10), sl10⟩) (c10 : PySem.W.codeIn K cd10 "_law_alike" = true) (k10 : PySem.W.keepIn K (.ref f10) = true)
    (a11 : PySem.W.nsIn K mainGlobals "_law_rules" = some (some (.ref f11))) (l11 : K.lookup f11 = some ⟨oc11, od11, .func (PySem.W.fnOf "_law_rules" "_law_rules" (defArgs s__law_rules) (defBody s__law_rules) (defScope s__law_rules) .none kV11 dc11 pm11 an11 cd11 ct11), sl11⟩) (c11 : PySem.W.codeIn K cd11 "_law_rules" = true) (k11 : PySem.W.keepIn K (.ref f11) = true)
    (a12 : PySem.W.nsIn K mainGlobals "_law_world" = some (some (.ref f12))) (l12 : K.lookup f12 = some ⟨oc12, od12, .func (PySem.W.fnOf "_law_world" "_law_world" (defArgs s__law_world) (defBody s__law_world) (defScope s__law_world) .none kV12 dc12 pm12 an12 cd12 ct12), sl12⟩) (c12 : PySem.W.codeIn K cd12 "_law_world" = true) (k12 : PySem.W.keepIn K (.ref f12) = true)
    (a13 : PySem.W.nsIn K mainGlobals "_law_text" = some (some (.ref f13))) (l13 : K.lookup f13 = some ⟨oc13, od13, .func (PySem.W.fnOf "_law_text" "_law_text" (defArgs s__law_text) (defBody s__law_text) (defScope s__law_text) .none kV13 dc13 pm13 an13 cd13 ct13), sl13⟩) (c13 : PySem.W.codeIn K cd13 "_law_text" = true) (k13 : PySem.W.keepIn K (.ref f13) = true)
    (a14 : PySem.W.nsIn K mainGlobals "_law_mix" = some (some (.ref f14))) (l14 : K.lookup f14 = some ⟨oc14, od14, .func (PySem.W.fnOf "_law_mix" "_law_mix" (defArgs s__law_mix) (defBody s__law_mix) (defScope s__law_mix) .none kV14 dc14 pm14 an14 cd14 ct14), sl14⟩) (c14 : PySem.W.codeIn K cd14 "_law_mix" = true) (k14 : PySem.W.keepIn K (.ref f14) = true)
    (a15 : PySem.W.nsIn K mainGlobals "law" = some (some (.ref f15))) (l15 : K.lookup f15 = some ⟨oc15, od15, .func (PySem.W.fnOf "law" "law" (defArgs s_law) (defBody s_law) (defScope s_law) .none kV15 dc15 pm15 an15 cd15 ct15), sl15⟩) (c15 : PySem.W.codeIn K cd15 "law" = true) (k15 : PySem.W.keepIn K (.ref f15) = true)
    (g_BAR : PySem.W.nsIn K mainGlobals "BAR" = some (some (.str "|" t_BAR)))
    (g_KINDS : PySem.W.nsIn K mainGlobals "KINDS" = some (some (.str "abcde" t_KINDS)))
    (g_MOST_BEATS : PySem.W.nsIn K mainGlobals "MOST_BEATS" = some (some (.int 4 t_MOST_BEATS)))
    (g_MOST_JARS : PySem.W.nsIn K mainGlobals "MOST_JARS" = some (some (.int 12 t_MOST_JARS)))
    (g_MOST_RULES : PySem.W.nsIn K mainGlobals "MOST_RULES" = some (some (.int 5 t_MOST_RULES)))
    (g_RULE : PySem.W.nsIn K mainGlobals "RULE" = some (some (.str "rule" t_RULE)))
    (z_all : PySem.W.nsIn K mainGlobals "all" = some none)
    (z_bool : PySem.W.nsIn K mainGlobals "bool" = some none)
    (z_enumerate : PySem.W.nsIn K mainGlobals "enumerate" = some none)
    (z_int : PySem.W.nsIn K mainGlobals "int" = some none)
    (z_isinstance : PySem.W.nsIn K mainGlobals "isinstance" = some none)
    (z_len : PySem.W.nsIn K mainGlobals "len" = some none)
    (z_list : PySem.W.nsIn K mainGlobals "list" = some none)
    (z_max : PySem.W.nsIn K mainGlobals "max" = some none)
    (z_range : PySem.W.nsIn K mainGlobals "range" = some none)
    (z_str : PySem.W.nsIn K mainGlobals "str" = some none)
    (z_tuple : PySem.W.nsIn K mainGlobals "tuple" = some none)
    (hok : LawOk n_law 29 b_law) : ∃ fd : FuncData, (∀ (s : Shared) (v : Value), BindsTo s fd ⟨[v], []⟩ [("_law_script", v)]) ∧ ∀ base : Heap, K.In base → base.Ns mainGlobals mg → FnOk l.prog w K mg base (L2.CX l.prog w) 9 fa fd ["_law_script"] (spLaw K) := by
  have e := hfa.symm.trans (PySem.W.mg_of X G a15)
  cases e
  have T : GT K mg := ⟨⟨_, _, fun_mk (st := s_need_row) l0 c0 k0, PySem.W.mg_of X G a0⟩, ⟨_, _, fun_mk (st := s_need_bars) l1 c1 k1, PySem.W.mg_of X G a1⟩, ⟨_, _, fun_mk (st := s_is_kind) l2 c2 k2, PySem.W.mg_of X G a2⟩, ⟨_, _, fun_mk (st := s_is_rule) l3 c3 k3, PySem.W.mg_of X G a3⟩, ⟨_, _, fun_mk (st := s_need_rules) l4 c4 k4, PySem.W.mg_of X G a4⟩, ⟨_, _, fun_mk (st := s_need_world) l5 c5 k5, PySem.W.mg_of X G a5⟩, ⟨_, _, fun_mk (st := s_written) l6 c6 k6, PySem.W.mg_of X G a6⟩, ⟨_, _, fun_mk (st := s_rule_of) l7 c7 k7, PySem.W.mg_of X G a7⟩, ⟨_, _, fun_mk (st := s_read) l8 c8 k8, PySem.W.mg_of X G a8⟩, ⟨_, _, fun_mk (st := s__law_next) l9 c9 k9, PySem.W.mg_of X G a9⟩, ⟨_, _, fun_mk (st := s__law_alike) l10 c10 k10, PySem.W.mg_of X G a10⟩, ⟨_, _, fun_mk (st := s__law_rules) l11 c11 k11, PySem.W.mg_of X G a11⟩, ⟨_, _, fun_mk (st := s__law_world) l12 c12 k12, PySem.W.mg_of X G a12⟩, ⟨_, _, fun_mk (st := s__law_text) l13 c13 k13, PySem.W.mg_of X G a13⟩, ⟨_, _, fun_mk (st := s__law_mix) l14 c14 k14, PySem.W.mg_of X G a14⟩, ⟨_, _, fun_mk (st := s_law) l15 c15 k15, PySem.W.mg_of X G a15⟩, ⟨_, PySem.W.mg_of X G g_BAR⟩, ⟨_, PySem.W.mg_of X G g_KINDS⟩, ⟨_, PySem.W.mg_of X G g_MOST_BEATS⟩, ⟨_, PySem.W.mg_of X G g_MOST_JARS⟩, ⟨_, PySem.W.mg_of X G g_MOST_RULES⟩, ⟨_, PySem.W.mg_of X G g_RULE⟩, PySem.W.mg_none_of X G z_all, PySem.W.mg_none_of X G z_bool, PySem.W.mg_none_of X G z_enumerate, PySem.W.mg_none_of X G z_int, PySem.W.mg_none_of X G z_isinstance, PySem.W.mg_none_of X G z_len, PySem.W.mg_none_of X G z_list, PySem.W.mg_none_of X G z_max, PySem.W.mg_none_of X G z_range, PySem.W.mg_none_of X G z_str, PySem.W.mg_none_of X G z_tuple⟩
  exact ⟨PySem.W.fnOf "law" "law" (defArgs s_law) (defBody s_law) (defScope s_law) .none kV15 dc15 pm15 an15 cd15 ct15, fun s v => .of_eq rfl, fun base _ _ => law_c (t := ⟨fun _ => 0, fun _ => ""⟩) T hok (fun_mk (st := s_law) l15 c15 k15)⟩
theorem walk {l : PySem.W.OpenLaw} {q : Program} {loose : List Str} {XP : (Str → Option Value) → Heap → Prop} {YP : World → Heap → Prop} {d : DefRec} {K : Params → PySem.W.Frag} (hn : l.most = some 63) (hdf : d.params.defaults = [])
    (hY : ∀ (w : World) (h : Heap), YP w h → (K w.params).In h)
    (F : ∀ (w : World) (mg : Str → Option Value) (fa : Addr) (h : Heap), (K w.params).In h → h.Ns mainGlobals mg → mg d.name = some (.ref fa) →
      ∃ fd : FuncData, (∀ (s : Shared) (u : Value), BindsTo s fd ⟨[u], []⟩ [("_law_script", u)]) ∧ ∀ base : Heap, (K w.params).In base → base.Ns mainGlobals mg → FnOk l.prog w (K w.params) mg base (L2.CX l.prog w) 9 fa fd ["_law_script"] (spLaw (K w.params))) :
    PySem.W.WalkO q loose XP YP l.row.toRowW d [] (fun f vs => PySem.call f vs) :=
  L2.walk_of (n := 63) (k := 9) (x := "_law_script") (CX := fun w => L2.CX l.prog w) (sp := fun w => spLaw (K w.params)) hn (by decide) hdf ⟨rfl, by decide, by decide⟩ hY F (fun _ _ a ns hl hO hS => ⟨a, ns, rfl, hl, hS, hO, fun _ => rfl⟩) fun _ _ _ _ _ ⟨_, _, _, _, _, _, _, _, _, _, _, _, z⟩ => z
end Dl
open PySem PySem.W PyProof.Rows
set_option maxRecDepth 100000 in
set_option maxHeartbeats 0 in
theorem PySem.Challenge.cw_sourrow_k09_worlds_written_and_read_holds : PySem.Challenge.rw_sourrow_k09_worlds_written_and_read.Holds := by
  w_on; o_law; k_head; (case hw => w_witness2)
  k_fill
  refine Dl.walk (l := PySem.Challenge.rw_sourrow_k09_worlds_written_and_read) rfl rfl (fun w h Y => PySem.W.kIn_of Y) ?F
  case F =>
    intro w mg fa h KX G hmg
    refine' Dl.all_mk KX G hmg ?a0 ?l0 ?c0 ?k0 ?a1 ?l1 ?c1 ?k1 ?a2 ?l2 ?c2 ?k2 ?a3 ?l3 ?c3 ?k3 ?a4 ?l4 ?c4 ?k4 ?a5 ?l5 ?c5 ?k5 ?a6 ?l6 ?c6 ?k6 ?a7 ?l7 ?c7 ?k7 ?a8 ?l8 ?c8 ?k8 ?a9 ?l9 ?c9 ?k9 ?a10 ?l10 ?c10 ?k10 ?a11 ?l11 ?c11 ?k11 ?a12 ?l12 ?c12 ?k12 ?a13 ?l13 ?c13 ?k13 ?a14 ?l14 ?c14 ?k14 ?a15 ?l15 ?c15 ?k15 ?g_BAR ?g_KINDS ?g_MOST_BEATS ?g_MOST_JARS ?g_MOST_RULES ?g_RULE ?z_all ?z_bool ?z_enumerate ?z_int ?z_isinstance ?z_len ?z_list ?z_max ?z_range ?z_str ?z_tuple Dl.law_ok
    (case a0 => k_is); (case l0 => k_is); (case c0 => k_is); (case k0 => k_is)
    (case a1 => k_is); (case l1 => k_is); (case c1 => k_is); (case k1 => k_is)
    (case a2 => k_is); (case l2 => k_is); (case c2 => k_is); (case k2 => k_is)
    (case a3 => k_is); (case l3 => k_is); (case c3 => k_is); (case k3 => k_is)
    (case a4 => k_is); (case l4 => k_is); (case c4 => k_is); (case k4 => k_is)
    (case a5 => k_is); (case l5 => k_is); (case c5 => k_is); (case k5 => k_is)
    (case a6 => k_is); (case l6 => k_is); (case c6 => k_is); (case k6 => k_is)
    (case a7 => k_is); (case l7 => k_is); (case c7 => k_is); (case k7 => k_is)
    (case a8 => k_is); (case l8 => k_is); (case c8 => k_is); (case k8 => k_is)
    (case a9 => k_is); (case l9 => k_is); (case c9 => k_is); (case k9 => k_is)
    (case a10 => k_is); (case l10 => k_is); (case c10 => k_is); (case k10 => k_is)
    (case a11 => k_is); (case l11 => k_is); (case c11 => k_is); (case k11 => k_is)
    (case a12 => k_is); (case l12 => k_is); (case c12 => k_is); (case k12 => k_is)
    (case a13 => k_is); (case l13 => k_is); (case c13 => k_is); (case k13 => k_is)
    (case a14 => k_is); (case l14 => k_is); (case c14 => k_is); (case k14 => k_is)
    (case a15 => k_is); (case l15 => k_is); (case c15 => k_is); (case k15 => k_is)
    (case g_BAR => k_is); (case g_KINDS => k_is); (case g_MOST_BEATS => k_is); (case g_MOST_JARS => k_is)
    (case g_MOST_RULES => k_is); (case g_RULE => k_is); (case z_all => k_is); (case z_bool => k_is)
    (case z_enumerate => k_is); (case z_int => k_is); (case z_isinstance => k_is); (case z_len => k_is)
    (case z_list => k_is); (case z_max => k_is); (case z_range => k_is); (case z_str => k_is)
    (case z_tuple => k_is)

