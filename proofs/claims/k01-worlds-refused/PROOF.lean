import PyProof.Rows.All
import Wide.All
import OpenK.AllK
import Wide.FinOn
import HandS.ForMost
import HandS.Exc
import HandS.TryOnly
import HandS.WordsExc
import KE.KDictKeyed
import KE.KeyNested
import HandS.Lambda
import KE.KDflt
import HandS.TupAny
import HandS.TupMul
import HandS.Flow
import HandS.Wide
import PyProof.StrBlock2
import HandS.IsInst
import HandS.Walk
import HandS.Style
import KE.GoesNew
import HandS.ReplaceLit
import HandS.ReplaceList
import HandS.RaiseMore
import KE.KDictSum
import HandS.DictComp
import HandS.Nested
import HandS.ExcInit
import HandS.ExcField
import HandS.ExcIs
import HandS.ClsMeth
import HandS.EndTab
import HandS.NestedK
import KE.KNestM
import HandS.Conv
import PySem.Challenge.RW_sourrow_k01_worlds_refused
set_option Elab.async false
set_option linter.all false
set_option maxRecDepth 100000
set_option maxHeartbeats 4000000
set_option autoImplicit true
/-! The data layer: values as trees, what a piece of syntax gives, over the hand layer. -/
namespace Dl
open PySem PySem.Spec PyProof.Rows L2

/-- a lambda of a def: its text, the cells that it captured -/
structure LamD where
  params : Arguments
  body : Expr
  scope : Scope
  qual : Str
  clo : List (Str × Addr)
/-- the object at f is such a lambda, its code object at c, its defaults dV -/
def LamO (L : LamD) (c : Addr) (dV : Value) (f : Addr) : HO := .ext fun h => ∃ doc pm ctv, h.get? f = some (PySem.W.kdv_obj "<lambda>" L.qual L.params (.expr L.body) L.scope L.clo dV doc pm c ctv)
/-- a value as a tree -/
inductive D where
  | non
  | bl (b : Bool)
  | int (i : Int)
  | str (s : List Nat)
  | tup (l : List D)
  | lst (l : List D)
  | dct (ks vs : List D)
  | own (ks vs : List D)
  | obj (n : Nat)
  | cst (v : V)
  | fn (k : Nat) (L : LamD)
  | erx (e dd : Addr) (f : Str) (i : Int)
  deriving Inhabited
/-- what a slot holds: a value that stands, or a list (a dict) of its own -/
inductive Cell where
  | val (d : D)
  | lst (l : List D)
  | dct (ks vs : List D)
/-- an object that is handed on by its place -/
inductive MObj where
  | drw (m : Int) (cs : List Int) (p : Int)
  | ins (x : Str) (fs : List (Str × Cell))
  | dct (ks vs : List D)
  | tab (p : Addr) (q : Str)
abbrev PWd := Program × World × (Str → Option Value)
abbrev pwOf (X : Cx) : PWd := (X.prog, X.w, X.mg)
abbrev Env := List (Option Cell)
abbrev Sto := List MObj

mutual
/-- a value as a dict's key -/
def keyOf : D → Option NestedKey
  | .non => some .none
  | .bl b => some (.num (if b = true then 1 else 0))
  | .int i => some (.num i)
  | .str s => some (.text ⟨s.toArray⟩)
  | .tup l => match keysOf l with
    | some ks => some (.tup ks)
    | none => none
  | _ => none
def keysOf : List D → Option (List NestedKey)
  | [] => some []
  | d :: l => match keyOf d, keysOf l with
    | some k, some ks => some (k :: ks)
    | _, _ => none
end
/-- a dict whose keys are tuples: its entries, its epoch -/
def dN (pw : PWd) (a : Addr) (xs : List (NestedKey × Addr × V)) (ep : Nat) : HO := .ext fun h => ∃ (o : Obj) (es : Array DictEntry) (ys : List (NestedKey × Addr × Value)),
  h.get? a = some o ∧ o.ExactDict ∧ o.data = .dict es ep ∧ es.toList = ys.map (entryOfKey (nestedKind pw.1 pw.2.1)) ∧ Paired (fun x y => x.1 = y.1 ∧ x.2.1 = y.2.1 ∧ RelV x.2.2 y.2.2) xs ys ∧ (a == sysModules) = false ∧ xs.length ≤ sizeLine ∧ (xs.map (·.1)).Nodup
mutual
inductive Rep (F : Hp) (io : List Addr) : D → V → Prop
  | non : Rep F io .non .non
  | bl (b : Bool) : Rep F io (.bl b) (.bl b)
  | int (i : Int) : Rep F io (.int i) (.int i)
  | str (s : List Nat) : Rep F io (.str s) (.str ⟨s.toArray⟩)
  | tup {a : Addr} {ds : List D} {vs : List V} : F a = some (.tup vs) → Reps F io ds vs → Rep F io (.tup ds) (.ref a)
  | lst {a : Addr} {ds : List D} {vs : List V} : F a = some (.lst vs) → Reps F io ds vs → Rep F io (.lst ds) (.ref a)
  | obj {n : Nat} {a : Addr} : io[n]? = some a → Rep F io (.obj n) (.ref a)
  | dct {pw : PWd} {a : Addr} {ep : Nat} {ks vs : List D} {xs : List (NestedKey × Addr × V)} : F a = some (dN pw a xs ep) → DPairs F io ks vs xs → Rep F io (.dct ks vs) (.ref a)
  | cst (v : V) : Rep F io (.cst v) v
  | fn {k : Nat} {L : LamD} {f c : Addr} {dV : Value} : F f = some (LamO L c dV f) → F c = some (LamX.CodeO c L.qual) → ((L.params.defaults.isEmpty = true ∧ dV = .none) ∨ (L.params.defaults.isEmpty = false ∧ ∃ t, dV = .ref t ∧ F t = some (.tup [.int 0]))) → Rep F io (.fn k L) (.ref f)
  | erx {e dd : Addr} {f : Str} {i : Int} : F dd = some (.xd [(f, .int i)]) → Rep F io (.erx e dd f i) (.ref e)
inductive Reps (F : Hp) (io : List Addr) : List D → List V → Prop
  | nil : Reps F io [] []
  | cons {d : D} {v : V} {ds : List D} {vs : List V} : Rep F io d v → Reps F io ds vs → Reps F io (d :: ds) (v :: vs)
inductive DPairs (F : Hp) (io : List Addr) : List D → List D → List (NestedKey × Addr × V) → Prop
  | nil : DPairs F io [] [] []
  | cons {k v : D} {u : V} {b : Addr} {kk : NestedKey} {ks vs : List D} {xs : List (NestedKey × Addr × V)} : Rep F io k (.ref b) → keyOf k = some kk → kk.depth ≤ 8 → Rep F io v u → DPairs F io ks vs xs → DPairs F io (k :: ks) (v :: vs) ((kk, b, u) :: xs)
end
def Sub (F F' : Hp) : Prop := ∀ a o, F a = some o → F' a = some o
theorem Sub.refl (F : Hp) : Sub F F := fun _ _ h => h
theorem Sub.trans {F F1 F2 : Hp} (a : Sub F F1) (b : Sub F1 F2) : Sub F F2 := fun c o h => b c o (a c o h)
def Pfx (l m : List Addr) : Prop := ∃ r, m = l ++ r
theorem Pfx.refl (l : List Addr) : Pfx l l := ⟨[], by simp⟩
theorem Pfx.trans {l m n : List Addr} (a : Pfx l m) (b : Pfx m n) : Pfx l n := by
  obtain ⟨r, rfl⟩ := a
  obtain ⟨s, rfl⟩ := b
  exact ⟨r ++ s, by simp⟩
theorem Pfx.get {l m : List Addr} (a : Pfx l m) {n : Nat} {b : Addr} (h : l[n]? = some b) : m[n]? = some b := by
  obtain ⟨r, rfl⟩ := a
  have := (List.getElem?_eq_some_iff.mp h).1
  rw [List.getElem?_append_left this]
  exact h
section
variable {pw : PWd} {F F' : Hp} {io io' : List Addr}
mutual
theorem Rep.mono (hF : Sub F F') (hi : Pfx io io') : ∀ {d : D} {v : V}, Rep F io d v → Rep F' io' d v
  | _, _, .non => .non
  | _, _, .bl b => .bl b
  | _, _, .int i => .int i
  | _, _, .str s => .str s
  | _, _, .tup e r => .tup (hF _ _ e) (Reps.mono hF hi r)
  | _, _, .lst e r => .lst (hF _ _ e) (Reps.mono hF hi r)
  | _, _, .obj e => .obj (hi.get e)
  | _, _, .cst v => .cst v
  | _, _, .fn e1 e2 e3 => .fn (hF _ _ e1) (hF _ _ e2) (e3.imp (fun z => z) fun ⟨h0, t, h1, h2⟩ => ⟨h0, t, h1, hF _ _ h2⟩)
  | _, _, .erx e1 => .erx (hF _ _ e1)
  | _, _, .dct e r => .dct (hF _ _ e) (DPairs.mono hF hi r)
theorem DPairs.mono (hF : Sub F F') (hi : Pfx io io') : ∀ {ks vs : List D} {xs : List (NestedKey × Addr × V)}, DPairs F io ks vs xs → DPairs F' io' ks vs xs
  | _, _, _, .nil => .nil
  | _, _, _, .cons r e z q t => .cons (Rep.mono hF hi r) e z (Rep.mono hF hi q) (DPairs.mono hF hi t)
theorem Reps.mono (hF : Sub F F') (hi : Pfx io io') : ∀ {ds : List D} {vs : List V}, Reps F io ds vs → Reps F' io' ds vs
  | _, _, .nil => .nil
  | _, _, .cons r t => .cons (Rep.mono hF hi r) (Reps.mono hF hi t)
end
theorem Reps.length : ∀ {ds : List D} {vs : List V}, Reps F io ds vs → ds.length = vs.length
  | _, _, .nil => rfl
  | _, _, .cons _ t => congrArg (· + 1) (Reps.length t)
theorem Reps.get : ∀ {ds : List D} {vs : List V} {i : Nat} {d : D}, Reps F io ds vs → ds[i]? = some d → ∃ v, vs[i]? = some v ∧ Rep F io d v
  | _, _, _, _, .nil, e => by simp at e
  | _, _, 0, _, .cons r _, e => by simp at e; subst e; exact ⟨_, rfl, r⟩
  | _, _, i + 1, d, .cons _ t, e => by
    obtain ⟨u, h1, h2⟩ := Reps.get (i := i) (d := d) t (by simpa using e)
    exact ⟨u, by simpa using h1, h2⟩
theorem Reps.getV : ∀ {ds : List D} {vs : List V} {i : Nat} {v : V}, Reps F io ds vs → vs[i]? = some v → ∃ d, ds[i]? = some d ∧ Rep F io d v
  | _, _, _, _, .nil, e => by simp at e
  | _, _, 0, _, .cons r _, e => by simp at e; subst e; exact ⟨_, rfl, r⟩
  | _, _, i + 1, d, .cons _ t, e => by
    obtain ⟨u, h1, h2⟩ := Reps.getV (i := i) (v := d) t (by simpa using e)
    exact ⟨u, by simpa using h1, h2⟩
theorem Reps.append : ∀ {ds es : List D} {vs us : List V}, Reps F io ds vs → Reps F io es us → Reps F io (ds ++ es) (vs ++ us)
  | _, _, _, _, .nil, s => s
  | _, _, _, _, .cons r t, s => .cons r (Reps.append t s)
theorem Reps.take : ∀ {ds : List D} {vs : List V} (n : Nat), Reps F io ds vs → Reps F io (ds.take n) (vs.take n)
  | _, _, 0, _ => .nil
  | _, _, _ + 1, .nil => .nil
  | _, _, n + 1, .cons r t => .cons r (Reps.take n t)
theorem Reps.drop : ∀ {ds : List D} {vs : List V} (n : Nat), Reps F io ds vs → Reps F io (ds.drop n) (vs.drop n)
  | _, _, 0, r => r
  | _, _, _ + 1, .nil => .nil
  | _, _, n + 1, .cons _ t => Reps.drop n t
theorem Reps.set {d : D} {v : V} (r : Rep F io d v) : ∀ {ds : List D} {vs : List V} (i : Nat), Reps F io ds vs → Reps F io (ds.set i d) (vs.set i v)
  | _, _, _, .nil => .nil
  | _, _, 0, .cons _ t => .cons r t
  | _, _, i + 1, .cons q t => .cons q (Reps.set r i t)
end

/-- a cell, its value, the places that are its own -/
inductive CellR (pw : PWd) (F : Hp) (io : List Addr) (H : Hp) : Cell → V → List Addr → Prop
  | val {d : D} {v : V} : Rep F io d v → CellR pw F io H (.val d) v []
  | lst {a : Addr} {ds : List D} {vs : List V} : H a = some (.lst vs) → Reps F io ds vs → CellR pw F io H (.lst ds) (.ref a) [a]
  | dct {a : Addr} {ep : Nat} {ks vs : List D} {xs : List (NestedKey × Addr × V)} : H a = some (dN pw a xs ep) → DPairs F io ks vs xs → CellR pw F io H (.dct ks vs) (.ref a) [a]
inductive Vars (pw : PWd) (F : Hp) (io : List Addr) (H : Hp) : Env → L2.St → List Addr → Prop
  | nil : Vars pw F io H [] [] []
  | skip {o : Option V} {r : Env} {s : L2.St} {A : List Addr} : Vars pw F io H r s A → Vars pw F io H (none :: r) (o :: s) A
  | cons {c : Cell} {v : V} {r : Env} {s : L2.St} {A0 A : List Addr} : CellR pw F io H c v A0 → Vars pw F io H r s A → Vars pw F io H (some c :: r) (some v :: s) (A0 ++ A)
/-- an instance's fields: their names, their cells, the places that are theirs -/
inductive Flds (pw : PWd) (F : Hp) (io : List Addr) (H : Hp) : List (Str × Cell) → List (Str × V) → List Addr → Prop
  | nil : Flds pw F io H [] [] []
  | cons {n : Str} {c : Cell} {v : V} {fs : List (Str × Cell)} {gs : List (Str × V)} {A0 A : List Addr} : CellR pw F io H c v A0 → Flds pw F io H fs gs A → Flds pw F io H ((n, c) :: fs) ((n, v) :: gs) (A0 ++ A)
inductive ObjR (pw : PWd) (F : Hp) (io : List Addr) (H : Hp) : MObj → Addr → List Addr → Prop
  | drw {a b : Addr} {m p : Int} {cs : List Int} : H a = some (.lst [.int m, .ref b, .int p]) → H b = some (.lst (cs.map V.int)) → ObjR pw F io H (.drw m cs p) a [a, b]
  | dct {a : Addr} {ep : Nat} {ks vs : List D} {xs : List (NestedKey × Addr × V)} : H a = some (dN pw a xs ep) → DPairs F io ks vs xs → ObjR pw F io H (.dct ks vs) a [a]
  | tab {a : Addr} {q : Str} {ps : Array Value} : H a = some (.tbl ps) → TriplesOk ps.toList → (∀ (pos : Pos) (cv : Value), codeAmong pos ps.toList = some cv → ∃ c, cv = .ref c ∧ F c = some (LamX.CodeO c q)) → ObjR pw F io H (.tab a q) a [a]
  | ins {a dx C : Addr} {x : Str} {fs : List (Str × Cell)} {gs : List (Str × V)} {A : List Addr} : pw.2.2 x = some (.ref C) → H a = some (.ins C dx gs) → H dx = some (.own a) → Flds pw F io H fs gs A → ObjR pw F io H (.ins x fs) a (a :: dx :: A)
inductive Stos (pw : PWd) (F : Hp) (io : List Addr) (H : Hp) : Sto → List Addr → List Addr → Prop
  | nil : Stos pw F io H [] [] []
  | cons {o : MObj} {a : Addr} {m : Sto} {l A0 A : List Addr} : ObjR pw F io H o a A0 → Stos pw F io H m l A → Stos pw F io H (o :: m) (a :: l) (A0 ++ A)

section
variable {pw : PWd} {F F' : Hp} {io io' : List Addr} {H H' : Hp}
def Keep (A : List Addr) (H H' : Hp) : Prop := ∀ b ∈ A, ∀ o, H b = some o → H' b = some o
theorem CellR.mono (hF : Sub F F') (hi : Pfx io io') {c : Cell} {v : V} {A : List Addr} (h : CellR pw F io H c v A) (k : Keep A H H') : CellR pw F' io' H' c v A := by
  cases h with
  | val r => exact .val (r.mono hF hi)
  | lst e r => exact .lst (k _ (by simp) _ e) (r.mono hF hi)
  | dct e r => exact .dct (k _ (by simp) _ e) (r.mono hF hi)
theorem CellR.there {c : Cell} {v : V} {A : List Addr} (h : CellR pw F io H c v A) : ∀ b ∈ A, H b ≠ none := by
  cases h with
  | val r => intro b hb; cases hb
  | lst e r =>
    intro b hb
    have hb := List.mem_singleton.mp hb
    subst hb
    rw [e]
    exact fun z => by cases z
  | dct e r =>
    intro b hb
    have hb := List.mem_singleton.mp hb
    subst hb
    rw [e]
    exact fun z => by cases z
theorem Flds.mono (hF : Sub F F') (hi : Pfx io io') : ∀ {fs : List (Str × Cell)} {gs : List (Str × V)} {A : List Addr}, Flds pw F io H fs gs A → Keep A H H' → Flds pw F' io' H' fs gs A
  | _, _, _, .nil, _ => .nil
  | _, _, _, .cons c t, k => .cons (c.mono hF hi fun b hb => k b (List.mem_append_left _ hb)) (Flds.mono hF hi t fun b hb => k b (List.mem_append_right _ hb))
theorem Flds.there : ∀ {fs : List (Str × Cell)} {gs : List (Str × V)} {A : List Addr}, Flds pw F io H fs gs A → ∀ b ∈ A, H b ≠ none
  | _, _, _, .nil => fun b hb => by cases hb
  | _, _, _, .cons c t => fun b hb => (List.mem_append.mp hb).elim (c.there b) (Flds.there t b)
theorem ObjR.mono (hF : Sub F F') (hi : Pfx io io') {o : MObj} {a : Addr} {A : List Addr} (h : ObjR pw F io H o a A) (k : Keep A H H') : ObjR pw F' io' H' o a A := by
  cases h with
  | drw e1 e2 => exact .drw (k _ (by simp) _ e1) (k _ (by simp) _ e2)
  | dct e r => exact .dct (k _ (by simp) _ e) (r.mono hF hi)
  | tab e1 e2 e3 => exact .tab (k _ (by simp) _ e1) e2 fun pos cv h => let ⟨c, h1, h2⟩ := e3 pos cv h; ⟨c, h1, hF _ _ h2⟩
  | ins e0 e1 e2 t => exact .ins e0 (k _ (by simp) _ e1) (k _ (by simp) _ e2) (t.mono hF hi fun b hb => k b (List.mem_cons_of_mem _ (List.mem_cons_of_mem _ hb)))
theorem ObjR.there {o : MObj} {a : Addr} {A : List Addr} (h : ObjR pw F io H o a A) : ∀ b ∈ A, H b ≠ none := by
  cases h with
  | drw e1 e2 =>
    intro b hb
    simp only [List.mem_cons, List.not_mem_nil, or_false] at hb
    rcases hb with rfl | rfl
    · rw [e1]; exact fun z => by cases z
    · rw [e2]; exact fun z => by cases z
  | dct e r =>
    intro b hb
    have hb := List.mem_singleton.mp hb
    subst hb
    rw [e]
    exact fun z => by cases z
  | tab e1 e2 e3 =>
    intro b hb
    have hb := List.mem_singleton.mp hb
    subst hb
    rw [e1]
    exact fun z => by cases z
  | ins e0 e1 e2 t =>
    intro b hb
    rcases List.mem_cons.mp hb with rfl | hb
    · rw [e1]; exact fun z => by cases z
    · rcases List.mem_cons.mp hb with rfl | hb
      · rw [e2]; exact fun z => by cases z
      · exact t.there b hb
theorem Vars.mono (hF : Sub F F') (hi : Pfx io io') : ∀ {r : Env} {s : L2.St} {A : List Addr}, Vars pw F io H r s A → Keep A H H' → Vars pw F' io' H' r s A
  | _, _, _, .nil, _ => .nil
  | _, _, _, .skip t, k => .skip (Vars.mono hF hi t k)
  | _, _, _, .cons c t, k => .cons (c.mono hF hi fun b hb => k b (List.mem_append_left _ hb)) (Vars.mono hF hi t fun b hb => k b (List.mem_append_right _ hb))
theorem Stos.mono (hF : Sub F F') (hi : Pfx io io') : ∀ {m : Sto} {l : List Addr} {A : List Addr}, Stos pw F io H m l A → Keep A H H' → Stos pw F' io' H' m l A
  | _, _, _, .nil, _ => .nil
  | _, _, _, .cons c t, k => .cons (c.mono hF hi fun b hb => k b (List.mem_append_left _ hb)) (Stos.mono hF hi t fun b hb => k b (List.mem_append_right _ hb))
theorem Vars.there : ∀ {r : Env} {s : L2.St} {A : List Addr}, Vars pw F io H r s A → ∀ b ∈ A, H b ≠ none
  | _, _, _, .nil => fun b hb => by cases hb
  | _, _, _, .skip t => Vars.there t
  | _, _, _, .cons c t => fun b hb => (List.mem_append.mp hb).elim (c.there b) (Vars.there t b)
theorem Stos.there : ∀ {m : Sto} {l : List Addr} {A : List Addr}, Stos pw F io H m l A → ∀ b ∈ A, H b ≠ none
  | _, _, _, .nil => fun b hb => by cases hb
  | _, _, _, .cons c t => fun b hb => (List.mem_append.mp hb).elim (c.there b) (Stos.there t b)
theorem Vars.length : ∀ {r : Env} {s : L2.St} {A : List Addr}, Vars pw F io H r s A → r.length = s.length
  | _, _, _, .nil => rfl
  | _, _, _, .skip t => congrArg (· + 1) (Vars.length t)
  | _, _, _, .cons _ t => congrArg (· + 1) (Vars.length t)
/-- the i-th slot apart from the others -/
theorem Vars.at : ∀ {r : Env} {s : L2.St} {A : List Addr} {i : Nat}, Vars pw F io H r s A → i < r.length → ∃ A0 A', A.Perm (A0 ++ A') ∧
    (∀ c, r[i]? = some (some c) → ∃ v, s[i]? = some (some v) ∧ CellR pw F io H c v A0) ∧
    (∀ {F' io' H'} (_ : Sub F F') (_ : Pfx io io') (_ : Keep A' H H') {c' v' A1}, CellR pw F' io' H' c' v' A1 → ∃ A2, A2.Perm (A1 ++ A') ∧ Vars pw F' io' H' (r.set i (some c')) (s.set i (some v')) A2) ∧
    (∃ A2, A2.Perm A' ∧ ∀ o, Vars pw F io H (r.set i none) (s.set i o) A2)
  | _, _, _, i, .nil, h => absurd h (Nat.not_lt_zero _)
  | _, _, _, 0, .skip t, h => by
    refine ⟨[], _, List.Perm.refl _, fun c e => ?_, fun hF hi k => fun hc => ⟨_, List.Perm.refl _, .cons hc (t.mono hF hi k)⟩, _, List.Perm.refl _, fun o => .skip t⟩
    simp at e
  | _, _, _, 0, .cons c t, h => by
    refine ⟨_, _, List.Perm.refl _, fun c' e => ?_, fun hF hi k => fun hc => ⟨_, List.Perm.refl _, .cons hc (t.mono hF hi k)⟩, _, List.Perm.refl _, fun o => .skip t⟩
    simp at e
    subst e
    exact ⟨_, rfl, c⟩
  | _, _, _, i + 1, .skip t, h => by
    obtain ⟨A0, A', p, g, w, A2, p2, n⟩ := Vars.at (i := i) t (Nat.lt_of_succ_lt_succ h)
    refine ⟨A0, A', p, fun c e => ?_, fun hF hi k => fun hc => ?_, A2, p2, fun o => .skip (n o)⟩
    · exact g c (by simpa using e)
    · obtain ⟨A3, p3, w3⟩ := w hF hi k hc
      exact ⟨A3, p3, .skip w3⟩
  | _, _, _, i + 1, .cons (A0 := B0) (A := B) c t, h => by
    obtain ⟨A0, A', p, g, w, A2, p2, n⟩ := Vars.at (i := i) t (Nat.lt_of_succ_lt_succ h)
    refine ⟨A0, B0 ++ A', ?_, fun c e => ?_, fun hF hi k => fun hc => ?_, B0 ++ A2, List.Perm.append_left _ p2, fun o => .cons c (n o)⟩
    · refine (List.Perm.append_left B0 p).trans ?_
      rw [← List.append_assoc, ← List.append_assoc]
      exact List.Perm.append_right _ List.perm_append_comm
    · exact g c (by simpa using e)
    · obtain ⟨A3, p3, w3⟩ := w hF hi (fun b hb => k b (List.mem_append_right _ hb)) hc
      refine ⟨B0 ++ A3, ?_, .cons (c.mono hF hi fun b hb => k b (List.mem_append_left _ hb)) w3⟩
      refine (List.Perm.append_left B0 p3).trans ?_
      rw [← List.append_assoc, ← List.append_assoc]
      exact List.Perm.append_right _ List.perm_append_comm
/-- the n-th object apart from the others -/
theorem Stos.at : ∀ {m : Sto} {l A : List Addr} {n : Nat} {o : MObj}, Stos pw F io H m l A → m[n]? = some o → ∃ a A0 A', l[n]? = some a ∧ A.Perm (A0 ++ A') ∧ ObjR pw F io H o a A0 ∧
    ∀ {F' io' H'} (_ : Sub F F') (_ : Pfx io io') (_ : Keep A' H H') {o' A1}, ObjR pw F' io' H' o' a A1 → ∃ A2, A2.Perm (A1 ++ A') ∧ Stos pw F' io' H' (m.set n o') l A2
  | _, _, _, n, _, .nil, h => by simp at h
  | _, _, _, 0, _, .cons c t, h => by
    simp at h
    subst h
    exact ⟨_, _, _, rfl, List.Perm.refl _, c, fun hF hi k => fun hc => ⟨_, List.Perm.refl _, .cons hc (t.mono hF hi k)⟩⟩
  | _, _, _, n + 1, o, .cons (A0 := B0) (A := B) c t, h => by
    obtain ⟨a, A0, A', e, p, g, w⟩ := Stos.at (n := n) (o := o) t (by simpa using h)
    refine ⟨a, A0, B0 ++ A', by simpa using e, ?_, g, fun hF hi k => fun hc => ?_⟩
    · refine (List.Perm.append_left B0 p).trans ?_
      rw [← List.append_assoc, ← List.append_assoc]
      exact List.Perm.append_right _ List.perm_append_comm
    · obtain ⟨A3, p3, w3⟩ := w hF hi (fun b hb => k b (List.mem_append_right _ hb)) hc
      refine ⟨B0 ++ A3, ?_, .cons (c.mono hF hi fun b hb => k b (List.mem_append_left _ hb)) w3⟩
      refine (List.Perm.append_left B0 p3).trans ?_
      rw [← List.append_assoc, ← List.append_assoc]
      exact List.Perm.append_right _ List.perm_append_comm
end

/-- the ghost of a state: what stands, the objects' places, the places that are the slots' own, the objects' own -/
structure Sx (pw : PWd) where
  F : Hp
  io : List Addr
  A1 : List Addr
  A2 : List Addr
abbrev Sx.wF (x : Sx pw) (G : Hp) : Sx pw := ⟨G, x.io, x.A1, x.A2⟩
abbrev Sx.w1 (x : Sx pw) (A : List Addr) : Sx pw := ⟨x.F, x.io, A, x.A2⟩
abbrev Sx.w2 (x : Sx pw) (A : List Addr) : Sx pw := ⟨x.F, x.io, x.A1, A⟩
abbrev Sx.wF1 (x : Sx pw) (G : Hp) (A : List Addr) : Sx pw := ⟨G, x.io, A, x.A2⟩
structure Rel (x : Sx pw) (r : Env) (m : Sto) (s : L2.St) (H : Hp) : Prop where
  sub : Sub x.F H
  vars : Vars pw x.F x.io H r s x.A1
  sto : Stos pw x.F x.io H m x.io x.A2
  nd : (x.A1 ++ x.A2).Nodup
  nF : ∀ a ∈ x.A1 ++ x.A2, x.F a = none
/-- from one state to a later one: what is at M may have changed -/
structure Stp (M : List Addr) (x : Sx pw) (H : Hp) (y : Sx pw) (H' : Hp) : Prop where
  F : Sub x.F y.F
  io : Pfx x.io y.io
  keep : ∀ b o, H b = some o → b ∉ M → H' b = some o
  there : ∀ b, H' b = none → H b = none
  newF : ∀ b, x.F b = none → y.F b ≠ none → H b = none ∨ b ∈ M
  newA : ∀ b ∈ y.A2, b ∈ x.A2 ∨ H b = none
/-- the same for an expression: the slots' own places stay -/
structure StE (x : Sx pw) (H : Hp) (y : Sx pw) (H' : Hp) : Prop where
  st : Stp x.A2 x H y H'
  a1 : y.A1 = x.A1
/-- for a statement -/
structure StS (x : Sx pw) (H : Hp) (y : Sx pw) (H' : Hp) : Prop where
  st : Stp (x.A1 ++ x.A2) x H y H'
  a1 : ∀ b ∈ y.A1, b ∈ x.A1 ∨ b ∈ x.A2 ∨ H b = none
section
variable {x y z : Sx pw} {H H1 H2 : Hp}
theorem Stp.refl {M : List Addr} : Stp M x H x H := ⟨.refl _, .refl _, fun _ _ h _ => h, fun _ h => h, fun b h1 h2 => absurd h1 h2, fun b h => .inl h⟩
theorem StE.refl : StE x H x H := ⟨.refl, rfl⟩
theorem StS.refl : StS x H x H := ⟨.refl, fun b h => .inl h⟩
theorem StE.trans (a : StE x H y H1) (b : StE y H1 z H2) : StE x H z H2 := by
  refine ⟨⟨a.st.F.trans b.st.F, a.st.io.trans b.st.io, fun c o h n => b.st.keep c o (a.st.keep c o h n) fun q => ?_, fun c h => a.st.there c (b.st.there c h), fun c h1 h2 => ?_, fun c h => ?_⟩, b.a1.trans a.a1⟩
  · rcases a.st.newA c q with q | q
    · exact n q
    · rw [h] at q; cases q
  · cases q : y.F c with
    | none =>
      rcases b.st.newF c q h2 with w | w
      · exact .inl (a.st.there c w)
      · exact (a.st.newA c w).elim .inr .inl
    | some o => exact a.st.newF c h1 (by rw [q]; exact fun z => by cases z)
  · rcases b.st.newA c h with q | q
    · exact a.st.newA c q
    · exact .inr (a.st.there c q)
theorem StE.toS (a : StE x H y H1) : StS x H y H1 := by
  refine ⟨⟨a.st.F, a.st.io, fun c o h n => a.st.keep c o h fun q => n (List.mem_append_right _ q), a.st.there, fun c h1 h2 => (a.st.newF c h1 h2).elim .inl fun q => .inr (List.mem_append_right _ q), a.st.newA⟩, fun c h => .inl (by rw [← a.a1]; exact h)⟩
theorem StS.trans (a : StS x H y H1) (b : StS y H1 z H2) : StS x H z H2 := by
  have old : ∀ c o, H c = some o → c ∈ y.A1 ++ y.A2 → c ∈ x.A1 ++ x.A2 := fun c o h q => by
    rcases List.mem_append.mp q with q | q
    · rcases a.a1 c q with w | w | w
      · exact List.mem_append_left _ w
      · exact List.mem_append_right _ w
      · rw [h] at w; cases w
    · rcases a.st.newA c q with w | w
      · exact List.mem_append_right _ w
      · rw [h] at w; cases w
  have old2 : ∀ c, c ∈ y.A1 ++ y.A2 → H c = none ∨ c ∈ x.A1 ++ x.A2 := fun c q => by
    cases h : H c with
    | none => exact .inl rfl
    | some o => exact .inr (old c o h q)
  refine ⟨⟨a.st.F.trans b.st.F, a.st.io.trans b.st.io, fun c o h n => b.st.keep c o (a.st.keep c o h n) fun q => n (old c o h q), fun c h => a.st.there c (b.st.there c h), fun c h1 h2 => ?_, fun c h => ?_⟩, fun c h => ?_⟩
  · cases q : y.F c with
    | none =>
      rcases b.st.newF c q h2 with w | w
      · exact .inl (a.st.there c w)
      · exact old2 c w
    | some o => exact a.st.newF c h1 (by rw [q]; exact fun z => by cases z)
  · rcases b.st.newA c h with q | q
    · exact a.st.newA c q
    · exact .inr (a.st.there c q)
  · rcases b.a1 c h with q | q | q
    · exact a.a1 c q
    · exact .inr (a.st.newA c q)
    · exact .inr (.inr (a.st.there c q))
end
end Dl
set_option autoImplicit true
/-! The data layer: judgements, what is read of a state, binding. -/
namespace Dl
open PySem PySem.Spec PyProof.Rows L2

/-- what a piece of syntax comes to: a value and the objects; a refusal; nothing that is told -/
inductive R (α : Type) where
  | ok (a : α) (m : Sto)
  | exc (c : Nat) (v : D) (m : Sto)
  | bad
def bindR {α β : Type} (r : R α) (f : α → Sto → R β) : R β := match r with
  | .ok a m => f a m
  | .exc c v m => .exc c v m
  | .bad => .bad
@[simp] theorem bindR_ok {α β : Type} (a : α) (m : Sto) (f : α → Sto → R β) : bindR (.ok a m) f = f a m := rfl
@[simp] theorem bindR_exc {α β : Type} (c : Nat) (v : D) (m : Sto) (f : α → Sto → R β) : bindR (.exc c v m) f = .exc c v m := rfl
@[simp] theorem bindR_bad {α β : Type} (f : α → Sto → R β) : bindR (.bad : R α) f = .bad := rfl
def ofO {α : Type} (o : Option α) (m : Sto) : R α := match o with
  | some a => .ok a m
  | none => .bad
@[simp] theorem ofO_some {α : Type} (a : α) (m : Sto) : ofO (some a) m = .ok a m := rfl
@[simp] theorem ofO_none {α : Type} (m : Sto) : ofO (none : Option α) m = .bad := rfl
abbrev Sem1 (α : Type) := Env → Sto → R α
abbrev SE := Sem1 D
abbrev SB := Sem1 Bool
abbrev SL := Sem1 (List D)

/-- what a def or a block wishes of refusals: the classes' places, their fields' names, the wish -/
structure Wi where
  T : Nat → Addr
  fld : Nat → Str
  W : WX
/-- how a refusal of the kind c with the value v lies -/
def ExAt (w : Wi) (c : Nat) (v : D) (cls : Value) (d : Option Addr) (y : Sx pw) (H : Hp) : Prop :=
  cls = .ref (w.T c) ∧ ((v = .own [] [] ∧ d = none) ∨ ∃ a u, d = some a ∧ y.F a = some (.xd [(w.fld c, u)]) ∧ Rep y.F y.io v u)

abbrev PP (pw : PWd) (α β : Type) := Sx pw → Hp → α → β → Prop
/-- a value that stands -/
def PV {pw : PWd} : PP pw D V := fun x _ d v => Rep x.F x.io d v
/-- a value that is looked at: it may be a slot's own list -/
def Pk {pw : PWd} : PP pw D V := fun x H d v => Rep x.F x.io d v ∨ (∃ ds vs a, d = .lst ds ∧ v = .ref a ∧ a ∈ x.A1 ∧ H a = some (.lst vs) ∧ Reps x.F x.io ds vs) ∨ ∃ ks vs xs ep a, d = .own ks vs ∧ v = .ref a ∧ a ∈ x.A1 ∧ H a = some (dN pw a xs ep) ∧ DPairs x.F x.io ks vs xs
def PB {pw : PWd} : PP pw Bool Bool := fun _ _ a b => a = b
def PL {pw : PWd} : PP pw (List D) (List V) := fun x _ ds vs => Reps x.F x.io ds vs
inductive Pks (x : Sx pw) (H : Hp) : List D → List V → Prop
  | nil : Pks x H [] []
  | cons {d : D} {v : V} {ds : List D} {vs : List V} : Pk x H d v → Pks x H ds vs → Pks x H (d :: ds) (v :: vs)
def Fin {α β : Type} (P : PP pw α β) (w : Wi) (x : Sx pw) (r : Env) (s : L2.St) (H : Hp) (Q : β → Hp → Prop) : R α → Prop
  | .ok a m => ∀ b y H', Rel y r m s H' → P y H' a b → StE x H y H' → Q b H'
  | .exc c v m => ∀ cls d y H', Rel y r m s H' → ExAt w c v cls d y H' → StE x H y H' → w.W cls d s H'
  | .bad => False
def rd {α β : Type} (P : PP pw α β) (w : Wi) (f : Sem1 α) (s : L2.St) (H : Hp) (Q : β → Hp → Prop) : Prop := ∃ x r m, Rel x r m s H ∧ Fin P w x r s H Q (f r m)

section
variable {x y : Sx pw} {r : Env} {m : Sto} {s : L2.St} {H H' : Hp} {w : Wi}
theorem Pk.stay {d : D} {v : V} (h : Pk x H d v) (R : Rel x r m s H) (st : StE x H y H') : Pk y H' d v := by
  rcases h with h | ⟨ds, vs, a, e1, e2, ha, e, q⟩ | ⟨ks, vs, xs, ep, a, e1, e2, ha, e, q⟩
  · exact .inl (h.mono st.st.F st.st.io)
  · refine .inr (.inl ⟨ds, vs, a, e1, e2, by rw [st.a1]; exact ha, st.st.keep a _ e fun z => ?_, q.mono st.st.F st.st.io⟩)
    exact (List.nodup_append.mp R.nd).2.2 a ha a z rfl
  · refine .inr (.inr ⟨ks, vs, xs, ep, a, e1, e2, by rw [st.a1]; exact ha, st.st.keep a _ e fun z => ?_, q.mono st.st.F st.st.io⟩)
    exact (List.nodup_append.mp R.nd).2.2 a ha a z rfl
theorem Pks.stay {ds : List D} {vs : List V} (h : Pks x H ds vs) (R : Rel x r m s H) (st : StE x H y H') : Pks y H' ds vs := by
  induction h with
  | nil => exact .nil
  | cons a _ ih => exact .cons (a.stay R st) ih
theorem Pk.of {d : D} {v : V} (h : Rep x.F x.io d v) : Pk x H d v := .inl h
theorem Pks.of : ∀ {ds : List D} {vs : List V}, Reps x.F x.io ds vs → Pks x H ds vs
  | _, _, .nil => .nil
  | _, _, .cons a t => .cons (.inl a) (Pks.of t)
/-- a list that is looked at -/
theorem Pk.lst {ds : List D} {v : V} (h : Pk x H (.lst ds) v) (R : Rel x r m s H) : ∃ a vs, v = .ref a ∧ H a = some (.lst vs) ∧ Reps x.F x.io ds vs := by
  rcases h with h | ⟨ds', vs, a, e1, e2, ha, e, q⟩ | ⟨ks, vs, xs, ep, a, e1, e2, ha, e, q⟩
  · cases h with
    | lst e q => exact ⟨_, _, rfl, R.sub _ _ e, q⟩
  · cases e1
    exact ⟨a, vs, e2, e, q⟩
  · cases e1
theorem Pk.tup {ds : List D} {v : V} (h : Pk x H (.tup ds) v) (R : Rel x r m s H) : ∃ a vs, v = .ref a ∧ x.F a = some (.tup vs) ∧ H a = some (.tup vs) ∧ Reps x.F x.io ds vs := by
  rcases h with h | ⟨ds', vs, a, e1, e2, ha, e, q⟩ | ⟨ks, vs, xs, ep, a, e1, e2, ha, e, q⟩
  · cases h with
    | tup e q => exact ⟨_, _, rfl, e, R.sub _ _ e, q⟩
  · cases e1
  · cases e1
theorem Pk.int {i : Int} {v : V} (h : Pk x H (.int i) v) : v = .int i := by
  rcases h with h | ⟨ds', vs, a, e1, e2, ha, e, q⟩ | ⟨ks, vs, xs, ep, a, e1, e2, ha, e, q⟩
  · cases h; rfl
  · cases e1
  · cases e1
theorem Pk.bl {i : Bool} {v : V} (h : Pk x H (.bl i) v) : v = .bl i := by
  rcases h with h | ⟨ds', vs, a, e1, e2, ha, e, q⟩ | ⟨ks, vs, xs, ep, a, e1, e2, ha, e, q⟩
  · cases h; rfl
  · cases e1
  · cases e1
theorem Pk.non {v : V} (h : Pk x H .non v) : v = .non := by
  rcases h with h | ⟨ds', vs, a, e1, e2, ha, e, q⟩ | ⟨ks, vs, xs, ep, a, e1, e2, ha, e, q⟩
  · cases h; rfl
  · cases e1
  · cases e1
theorem Pk.str {z : List Nat} {v : V} (h : Pk x H (.str z) v) : v = .str ⟨z.toArray⟩ := by
  rcases h with h | ⟨ds', vs, a, e1, e2, ha, e, q⟩ | ⟨ks, vs, xs, ep, a, e1, e2, ha, e, q⟩
  · cases h; rfl
  · cases e1
  · cases e1
theorem Pk.own {ks vs : List D} {v : V} (h : Pk x H (.own ks vs) v) : ∃ a ep xs, v = .ref a ∧ a ∈ x.A1 ∧ H a = some (dN pw a xs ep) ∧ DPairs x.F x.io ks vs xs := by
  rcases h with h | ⟨ds', vs, a, e1, e2, ha, e, q⟩ | ⟨ks, vs, xs, ep, a, e1, e2, ha, e, q⟩
  · cases h
  · cases e1
  · cases e1
    exact ⟨a, ep, xs, e2, ha, e, q⟩
theorem Pk.obj {n : Nat} {v : V} (h : Pk x H (.obj n) v) : ∃ a, v = .ref a ∧ x.io[n]? = some a := by
  rcases h with h | ⟨ds', vs, a, e1, e2, ha, e, q⟩ | ⟨ks, vs, xs, ep, a, e1, e2, ha, e, q⟩
  · cases h with
    | obj e => exact ⟨_, rfl, e⟩
  · cases e1
  · cases e1

theorem Rel.there (R : Rel x r m s H) : ∀ b ∈ x.A1 ++ x.A2, H b ≠ none := fun b hb => (List.mem_append.mp hb).elim (R.vars.there b) (R.sto.there b)
/-- a new thing that will stand as it is -/
theorem Rel.new {p : Addr} {o : HO} (R : Rel x r m s H) (hp : H p = none) : Rel (x.wF (upd x.F p o)) r m s (upd H p o) := by
  have hpF : x.F p = none := by
    cases e : x.F p with
    | none => rfl
    | some q => rw [R.sub _ _ e] at hp; cases hp
  have hs : Sub x.F (upd x.F p o) := fun b q e => by rw [upd_ne (ne_of_none e hpF)]; exact e
  have k : ∀ A : List Addr, Keep A H (upd H p o) := fun A b _ q e => by rw [upd_ne (ne_of_none e hp)]; exact e
  refine ⟨fun b q e => ?_, R.vars.mono hs (.refl _) (k _), R.sto.mono hs (.refl _) (k _), R.nd, fun b hb => ?_⟩
  · by_cases hb : b = p
    · subst hb
      have e : upd x.F b o b = some q := e
      rw [upd_same] at e
      rw [upd_same, e]
    · have e : upd x.F p o b = some q := e
      rw [upd_ne hb] at e
      rw [upd_ne hb]
      exact R.sub _ _ e
  · have hbp : b ≠ p := fun z => R.there b hb (by rw [z]; exact hp)
    show upd x.F p o b = none
    rw [upd_ne hbp]
    exact R.nF b hb
theorem StE.new {p : Addr} {o : HO} (R : Rel x r m s H) (hp : H p = none) : StE x H (x.wF (upd x.F p o)) (upd H p o) := by
  have hpF : x.F p = none := by
    cases e : x.F p with
    | none => rfl
    | some q => rw [R.sub _ _ e] at hp; cases hp
  refine ⟨⟨fun b q e => ?_, .refl _, fun b q e _ => ?_, fun b e => ?_, fun b h1 h2 => ?_, fun b h => .inl h⟩, rfl⟩
  · show upd x.F p o b = some q
    rw [upd_ne (ne_of_none e hpF)]
    exact e
  · rw [upd_ne (ne_of_none e hp)]
    exact e
  · by_cases hb : b = p
    · subst hb; exact hp
    · rw [upd_ne hb] at e
      exact e
  · by_cases hb : b = p
    · subst hb; exact .inl hp
    · have h2 : upd x.F p o b ≠ none := h2
      rw [upd_ne hb] at h2
      exact absurd h1 h2

variable {α β γ δ : Type}
theorem Fin.shift {P : PP pw α β} {Q : β → Hp → Prop} {a : R α} (st : StE x H y H') (h : Fin P w x r s H Q a) : Fin P w y r s H' Q a := by
  cases a with
  | ok a m => exact fun b z H2 R p t => h b z H2 R p (st.trans t)
  | exc c v m => exact fun cls d z H2 R p t => h cls d z H2 R p (st.trans t)
  | bad => exact h
theorem Fin.imp {P P' : PP pw α β} {Q Q' : β → Hp → Prop} {a : R α} (h : Fin P w x r s H Q a) (hp : ∀ y H a b, P' y H a b → P y H a b) (hq : ∀ b H, Q b H → Q' b H) : Fin P' w x r s H Q' a := by
  cases a with
  | ok a m => exact fun b z H2 R p t => hq _ _ (h b z H2 R (hp _ _ _ _ p) t)
  | exc c v m => exact fun cls d z H2 R p t => h cls d z H2 R p t
  | bad => exact h
theorem Fin.ite {P : PP pw α β} {Q : β → Hp → Prop} {a : R α} {c : Prop} [Decidable c] (h : Fin P w x r s H Q (if c then a else .bad)) : c ∧ Fin P w x r s H Q a := by
  by_cases hc : c
  · rw [if_pos hc] at h
    exact ⟨hc, h⟩
  · rw [if_neg hc] at h
    exact h.elim
/-- one part, then what comes of it -/
theorem rd_bind {P : PP pw α β} {P' : PP pw γ δ} {f : Sem1 α} {g : α → Sto → R γ} {Q : δ → Hp → Prop} {K : β → Hp → Prop} (R : Rel x r m s H) (h : Fin P' w x r s H Q (bindR (f r m) g))
    (k : ∀ a m' b y H', Rel y r m' s H' → P y H' a b → StE x H y H' → Fin P' w y r s H' Q (g a m') → K b H') : rd P w f s H K := by
  refine ⟨x, r, m, R, ?_⟩
  cases e : f r m with
  | ok a m' =>
    rw [e] at h
    exact fun b y H' R' p st => k a m' b y H' R' p st (Fin.shift st h)
  | exc c v m' =>
    rw [e] at h
    exact h
  | bad =>
    rw [e] at h
    exact h
/-- the end: a value that is there already -/
theorem Fin.here {P : PP pw α β} {Q : β → Hp → Prop} {a : α} {b : β} (R : Rel x r m s H) (h : Fin P w x r s H Q (.ok a m)) (p : P x H a b) : Q b H := h b x H R p .refl
/-- the end: a new thing that will stand -/
theorem Fin.fresh {P : PP pw α V} {Q : VK} {a : α} {o : HO} (R : Rel x r m s H) (h : Fin P w x r s H Q (.ok a m)) (p : ∀ p, H p = none → P (x.wF (upd x.F p o)) (upd H p o) a (.ref p)) : ∀ p, H p = none → Q (.ref p) (upd H p o) :=
  fun q hq => h _ _ _ (R.new hq) (p q hq) (.new R hq)
theorem Reps.up {ds : List D} {vs : List V} {p : Addr} {o : HO} (R : Rel x r m s H) (hp : H p = none) (h : Reps x.F x.io ds vs) : Reps (upd x.F p o) x.io ds vs :=
  h.mono (StE.new (o := o) R hp).st.F (.refl _)
theorem Fin.list {Q : VK} {ds : List D} {vs : List V} (R : Rel x r m s H) (h : Fin PV w x r s H Q (.ok (.lst ds) m)) (q : Reps x.F x.io ds vs) : ∀ p, H p = none → Q (.ref p) (upd H p (.lst vs)) :=
  Fin.fresh R h fun p hp => .lst upd_same (q.up R hp)
theorem Fin.tuple {Q : VK} {ds : List D} {vs : List V} (R : Rel x r m s H) (h : Fin PV w x r s H Q (.ok (.tup ds) m)) (q : Reps x.F x.io ds vs) : ∀ p, H p = none → Q (.ref p) (upd H p (.tup vs)) :=
  Fin.fresh R h fun p hp => .tup upd_same (q.up R hp)
end

/-! ### weaker readings -/
theorem PE.imp {X : Cx} {e : Expr} {t t' : TE} (h : PE X e t) (k : ∀ s H Q, t' s H Q → t s H Q) : PE X e t' := ⟨fun pins s σ H Q I q => h.run pins s σ H Q I (k _ _ _ q)⟩
theorem PT.imp {X : Cx} {e : Expr} {t t' : TT} (h : PT X e t) (k : ∀ s H Q, t' s H Q → t s H Q) : PT X e t' := ⟨fun pins s σ H Q I q => h.run pins s σ H Q I (k _ _ _ q)⟩
theorem PW.imp {X : Cx} {e : Expr} {t t' : TT} (h : PW X e t) (k : ∀ s H Q, t' s H Q → t s H Q) : PW X e t' := ⟨fun wh pins s σ H Q I q => h.run wh pins s σ H Q I (k _ _ _ q)⟩
theorem PA.imp {X : Cx} {e : List Expr} {t t' : TA} (h : PA X e t) (k : ∀ s H Q, t' s H Q → t s H Q) : PA X e t' := ⟨fun pos pins s σ H Q I q => h.run pos pins s σ H Q I (k _ _ _ q)⟩
theorem PS.imp {X : Cx} {e : Stmt} {t t' : TS} (h : PS X e t) (k : ∀ D s H, t' D s H → t D s H) : PS X e t' := ⟨fun pins s σ H D I q => h.run pins s σ H D I (k _ _ _ q)⟩
theorem PSs.imp {X : Cx} {e : List Stmt} {t t' : TS} (h : PSs X e t) (k : ∀ D s H, t' D s H → t D s H) : PSs X e t' := ⟨fun pins s σ H D I q => h.run pins s σ H D I (k _ _ _ q)⟩
theorem PG.imp {X : Cx} {e : Expr} {t t' : TG} (h : PG X e t) (k : ∀ v s H Q, t' v s H Q → t v s H Q) : PG X e t' := ⟨fun pins s σ H v u Q I r q => h.run pins s σ H v u Q I r (k _ _ _ _ q)⟩
theorem PI.imp {X : Cx} {g e : Expr} {t t' : TI} (h : PI X g e t) (k : ∀ s H R, t' s H R → t s H R) : PI X g e t' := ⟨fun pins s σ H R I q => h.run pins s σ H R I (k _ _ _ q)⟩

/-- an expression that gives a value | that is looked at | a test | arguments -/
abbrev DE (X : Cx) (w : Wi) (e : Expr) (f : SE) : Prop := PE X e (rd (PV (pw := pwOf X)) w f)
abbrev DK (X : Cx) (w : Wi) (e : Expr) (f : SE) : Prop := PE X e (rd (Pk (pw := pwOf X)) w f)
abbrev DT (X : Cx) (w : Wi) (e : Expr) (f : SB) : Prop := PT X e (rd (PB (pw := pwOf X)) w f)
abbrev DW (X : Cx) (w : Wi) (e : Expr) (f : SB) : Prop := L2.PW X e (rd (PB (pw := pwOf X)) w f)
abbrev DA (X : Cx) (w : Wi) (es : List Expr) (f : SL) : Prop := PA X es (rd (PL (pw := pwOf X)) w f)
abbrev DAk (X : Cx) (w : Wi) (es : List Expr) (f : SL) : Prop := PA X es (rd (pw := pwOf X) (fun x H ds vs => Pks x H ds vs) w f)
section
variable {X : Cx} {w : Wi} {e : Expr} {es : List Expr} {f : SE} {fl : SL}
theorem DE.k (h : DE X w e f) : DK X w e f := PE.imp h fun s H Q ⟨x, r, m, R, q⟩ => ⟨x, r, m, R, Fin.imp q (fun _ _ _ _ p => .inl p) fun _ _ z => z⟩
theorem DA.k (h : DA X w es fl) : DAk X w es fl := PA.imp h fun s H Q ⟨x, r, m, R, q⟩ => ⟨x, r, m, R, Fin.imp q (fun _ _ _ _ p => Pks.of p) fun _ _ z => z⟩
end
end Dl
set_option autoImplicit true
/-! The data layer: names, constants, operators, comparisons, tests, displays, subscripts. -/
namespace Dl
open PySem PySem.Spec PyProof.Rows L2 TL

/-! ### names, constants -/
def sVar (i : Nat) : SE := fun r m => match r[i]? with
  | some (some (.val d)) => .ok d m
  | _ => .bad
def sPk (i : Nat) : SE := fun r m => match r[i]? with
  | some (some (.val d)) => .ok d m
  | some (some (.lst l)) => .ok (.lst l) m
  | some (some (.dct ks vs)) => .ok (.own ks vs) m
  | _ => .bad
def sC (d : D) : SE := fun _ m => .ok d m
section
variable {X : Cx} {w : Wi} {e a b c : Expr} {pos : Pos}
theorem slot_at {x : Sx pw} {r : Env} {m : Sto} {s : L2.St} {H : Hp} (R : Rel x r m s H) {i : Nat} {c : Cell} (h : r[i]? = some (some c)) : ∃ v A0, s[i]? = some (some v) ∧ CellR pw x.F x.io H c v A0 ∧ ∀ b ∈ A0, b ∈ x.A1 := by
  have hi : i < r.length := (List.getElem?_eq_some_iff.mp h).1
  obtain ⟨A0, A', p, g, _, _⟩ := R.vars.at hi
  obtain ⟨v, e, q⟩ := g c h
  exact ⟨v, A0, e, q, fun b hb => p.mem_iff.mpr (List.mem_append_left _ hb)⟩
theorem de_var {i : Nat} (h : PE X e (tVar i)) : DE X w e (sVar i) := PE.imp h fun s H Q ⟨x, r, m, R, q⟩ => by
  unfold sVar at q
  split at q
  · rename_i d hd
    obtain ⟨v, A0, e1, q1, _⟩ := slot_at R hd
    cases q1 with
    | val rp => exact ⟨v, e1, q v x H R rp .refl⟩
  · exact q.elim
theorem dk_var {i : Nat} (h : PE X e (tVar i)) : DK X w e (sPk i) := PE.imp h fun s H Q ⟨x, r, m, R, q⟩ => by
  unfold sPk at q
  split at q
  · rename_i d hd
    obtain ⟨v, A0, e1, q1, _⟩ := slot_at R hd
    cases q1 with
    | val rp => exact ⟨v, e1, q v x H R (.inl rp) .refl⟩
  · rename_i l hd
    obtain ⟨v, A0, e1, q1, hA⟩ := slot_at R hd
    cases q1 with
    | @lst a ds vs ha rp => exact ⟨_, e1, q (.ref a) x H R (.inr (.inl ⟨_, vs, a, rfl, rfl, hA a (by simp), ha, rp⟩)) .refl⟩
  · rename_i ks vs hd
    obtain ⟨v, A0, e1, q1, hA⟩ := slot_at R hd
    cases q1 with
    | @dct a ep ks vs xs ha rp => exact ⟨_, e1, q (.ref a) x H R (.inr (.inr ⟨_, _, xs, ep, a, rfl, rfl, hA a (by simp), ha, rp⟩)) .refl⟩
  · exact q.elim
theorem de_c {d : D} {v : V} (h : PE X e (tC v)) (hr : ∀ F io, Rep F io d v) : DE X w e (sC d) := PE.imp h fun s H Q ⟨x, r, m, R, q⟩ => q v x H R (hr _ _) .refl
theorem de_int {i : Int} {j : Nat} : DE X w (.Constant (.int i) j pos) (sC (.int i)) := de_c pe_int fun _ _ => .int i
theorem de_bl {b : Bool} {j : Nat} : DE X w (.Constant (.bool b) j pos) (sC (.bl b)) := de_c pe_bl fun _ _ => .bl b
theorem de_non {j : Nat} : DE X w (.Constant .none j pos) (sC .non) := de_c pe_non fun _ _ => .non
theorem de_str (l : List Nat) {x : Str} {j : Nat} (h : x = ⟨l.toArray⟩ := by decide +kernel) : DE X w (.Constant (.str x) j pos) (sC (.str l)) := de_c pe_str fun _ _ => by
  rw [h]
  exact .str l
/-- a module's text or number -/
theorem de_gstr (l : List Nat) {x y : Str} {t : Tok} (hg : Gl X x) (hm : X.mg x = some (.str y t)) (h : y = ⟨l.toArray⟩ := by decide +kernel) (hd : (x == ("__debug__" : Str)) = false := by decide) : DE X w (.Name x pos) (sC (.str l)) :=
  de_c (v := .str y) (pe_glob hg hm ⟨t, rfl⟩ hd) fun _ _ => by
    rw [h]
    exact .str l
theorem de_gint {i : Int} {x : Str} {t : Tok} (hg : Gl X x) (hm : X.mg x = some (.int i t)) (hd : (x == ("__debug__" : Str)) = false := by decide) : DE X w (.Name x pos) (sC (.int i)) := de_c (v := .int i) (pe_glob hg hm ⟨t, rfl⟩ hd) fun _ _ => .int i

/-! ### operators of two values -/
def OpD (pw : PWd) (w : Wi) (f : D → D → Sto → R D) (r : R2) : Prop := ∀ (x : Sx pw) (e : Env) (m : Sto) (s : L2.St) (H : Hp) (Q : VK) (da db : D) (va vb : V), Rel x e m s H → Pk x H da va → Pk x H db vb → Fin PV w x e s H Q (f da db m) → r va vb H Q
def sBin (f : D → D → Sto → R D) (a b : SE) : SE := fun r m => bindR (a r m) fun x m1 => bindR (b r m1) fun y m2 => f x y m2
theorem rd_bin {f : D → D → Sto → R D} {fa fb : SE} {r : R2} (h : OpD pw w f r) (s : L2.St) (H : Hp) (Q : VK) (q : rd (PV (pw := pw)) w (sBin f fa fb) s H Q) : tOp r (rd (Pk (pw := pw)) w fa) (rd (Pk (pw := pw)) w fb) s H Q := by
  obtain ⟨x, e, m, R, q⟩ := q
  refine rd_bind R q fun da m1 va y H1 R1 p1 st1 q1 => ?_
  refine rd_bind R1 q1 fun db m2 vb z H2 R2 p2 st2 q2 => ?_
  exact h z e m2 s H2 Q da db va vb R2 (p1.stay R1 st2) p2 q2
theorem de_bin {op : Operator} {f : D → D → Sto → R D} {r : R2} {fa fb : SE} (ho : OpR X (binaryOp op) r) (h : OpD (pwOf X) w f r) (ha : DK X w a fa) (hb : DK X w b fb) : DE X w (.BinOp a op b pos) (sBin f fa fb) :=
  PE.imp (pe_op ho ha hb) fun s H Q q => rd_bin h s H Q q
def LIM : Nat := 16777216
theorem lim_eq : LIM = sizeLine := sizeLine_eq.symm
def opAdd : D → D → Sto → R D
  | .int i, .int j, m => .ok (.int (i + j)) m
  | .str x, .str y, m => if x.length + y.length ≤ LIM then .ok (.str (x ++ y)) m else .bad
  | .lst x, .lst y, m => if x.length + y.length ≤ LIM then .ok (.lst (x ++ y)) m else .bad
  | .tup x, .tup y, m => if x.length + y.length ≤ LIM then .ok (.tup (x ++ y)) m else .bad
  | _, _, _ => .bad
theorem str_app (x y : List Nat) : (⟨x.toArray⟩ : Str) ++ (⟨y.toArray⟩ : Str) = ⟨(x ++ y).toArray⟩ := by
  have h : tl ((⟨x.toArray⟩ : Str) ++ (⟨y.toArray⟩ : Str)) = x ++ y := by rw [tl_append]
  exact ext_tl h
theorem str_len (x : List Nat) : (⟨x.toArray⟩ : Str).length = x.length := by simp [Str.length]
def rAddA (K : PySem.W.Frag) : R2 := fun x y H Q => (∃ i j, x = .int i ∧ y = .int j ∧ Q (.int (i + j)) H) ∨ (∃ i j, x = .str i ∧ y = .str j ∧ i.length + j.length ≤ sizeLine ∧ Q (.str (i ++ j)) H) ∨ rCat x y H Q ∨ rCatA K x y H Q
theorem op_addA : OpR X (binaryOp .Add) (rAddA X.K) := OpR.or op_add (OpR.or op_add_str (OpR.or op_cat op_catA))
theorem od_add (K : PySem.W.Frag) : OpD pw w opAdd (rAddA K) := by
  intro x e m s H Q da db va vb R pa pb h
  cases da <;> cases db <;> first
    | exact h.elim
    | skip
  · have ea := pa.int; have eb := pb.int
    subst ea eb
    exact .inl ⟨_, _, rfl, rfl, Fin.here R h (.int _)⟩
  · have ea := pa.str; have eb := pb.str
    subst ea eb
    obtain ⟨hz, h⟩ := Fin.ite h
    refine .inr (.inl ⟨_, _, rfl, rfl, ?_, ?_⟩)
    · rw [str_len, str_len, ← lim_eq]; exact hz
    · rw [str_app]
      exact Fin.here R h (.str _)
  · obtain ⟨a, vs, rfl, haF, ha, q⟩ := pa.tup R
    obtain ⟨b, us, rfl, hbF, hb, q'⟩ := pb.tup R
    obtain ⟨hz, h⟩ := Fin.ite h
    refine .inr (.inr (.inr ⟨a, b, vs, us, rfl, rfl, SqT.of ha, SqT.of hb, ?_, fun e => ?_, fun _ e => ?_, fun _ _ => ?_⟩))
    · rw [← q.length, ← q'.length, ← lim_eq]; exact hz
    · subst e
      cases q
      exact Fin.here R h (.tup hbF (by simpa using q'))
    · subst e
      cases q'
      exact Fin.here R h (.tup haF (by simpa using q))
    · exact Fin.tuple R h (q.append q')
  · obtain ⟨a, vs, rfl, ha, q⟩ := pa.lst R
    obtain ⟨b, us, rfl, hb, q'⟩ := pb.lst R
    obtain ⟨hz, h⟩ := Fin.ite h
    refine .inr (.inr (.inl ⟨a, b, vs, us, rfl, rfl, ha, hb, ?_, ?_⟩))
    · rw [← q.length, ← q'.length, ← lim_eq]; exact hz
    · exact Fin.list R h (q.append q')
theorem de_add {fa fb : SE} (ha : DK X w a fa) (hb : DK X w b fb) : DE X w (.BinOp a .Add b pos) (sBin opAdd fa fb) := de_bin op_addA (od_add _) ha hb

def opSub : D → D → Sto → R D
  | .int i, .int j, m => .ok (.int (i - j)) m
  | _, _, _ => .bad
theorem od_int {g : Int → Int → D} {f : D → D → Sto → R D} {r : Int → Int → Hp → VK → Prop} (hf : ∀ da db m, (∃ i j, da = .int i ∧ db = .int j) ∨ f da db m = .bad)
    (h : ∀ (x : Sx pw) (e : Env) (m : Sto) (s : L2.St) (H : Hp) (Q : VK) (i j : Int), Rel x e m s H → Fin PV w x e s H Q (f (.int i) (.int j) m) → r i j H Q) : OpD pw w f (fun x y H Q => ∃ i j, x = .int i ∧ y = .int j ∧ r i j H Q) := by
  intro x e m s H Q da db va vb R pa pb q
  rcases hf da db m with ⟨i, j, rfl, rfl⟩ | z
  · have ea := pa.int; have eb := pb.int
    subst ea eb
    exact ⟨i, j, rfl, rfl, h x e m s H Q i j R q⟩
  · rw [z] at q
    exact q.elim
theorem od_sub : OpD pw w opSub (rI0 fun i j => .int (i - j)) := od_int (g := fun _ _ => .non) (fun da db m => by cases da <;> cases db <;> first | exact .inr rfl | exact .inl ⟨_, _, rfl, rfl⟩) fun x e m s H Q i j R q => Fin.here R q (.int _)
theorem de_sub {fa fb : SE} (ha : DK X w a fa) (hb : DK X w b fb) : DE X w (.BinOp a .Sub b pos) (sBin opSub fa fb) := de_bin op_sub od_sub ha hb
def opMod : D → D → Sto → R D
  | .int i, .int j, m => if 0 < j then .ok (.int (i % j)) m else .bad
  | _, _, _ => .bad
theorem od_mod : OpD pw w opMod (rI (fun _ j => 0 < j) fun i j => .int (i % j)) := od_int (g := fun _ _ => .non) (fun da db m => by cases da <;> cases db <;> first | exact .inr rfl | exact .inl ⟨_, _, rfl, rfl⟩) fun x e m s H Q i j R q => by
  obtain ⟨hj, q⟩ := Fin.ite q
  exact ⟨hj, Fin.here R q (.int _)⟩
theorem de_mod {fa fb : SE} (ha : DK X w a fa) (hb : DK X w b fb) : DE X w (.BinOp a .Mod b pos) (sBin opMod fa fb) := de_bin op_mod od_mod ha hb
def opDiv : D → D → Sto → R D
  | .int i, .int j, m => if 0 < j ∧ j < 18446744073709551616 then .ok (.int (i / j)) m else .bad
  | _, _, _ => .bad
theorem divW {j : Int} (h : 0 < j ∧ j < 18446744073709551616) : CDivW 0 j := by
  refine ⟨h.1, ?_⟩
  have h2 : j.natAbs < 2 ^ 64 := by omega
  exact Nat.lt_trans (PySem.Flt.log2_lt_of (by decide) h2) (by decide)
theorem od_div : OpD pw w opDiv (rI CDivW fun i j => .int (i / j)) := od_int (g := fun _ _ => .non) (fun da db m => by cases da <;> cases db <;> first | exact .inr rfl | exact .inl ⟨_, _, rfl, rfl⟩) fun x e m s H Q i j R q => by
  obtain ⟨hj, q⟩ := Fin.ite q
  exact ⟨divW hj, Fin.here R q (.int _)⟩
theorem de_div {fa fb : SE} (ha : DK X w a fa) (hb : DK X w b fb) : DE X w (.BinOp a .FloorDiv b pos) (sBin opDiv fa fb) := de_bin op_fdivW od_div ha hb
def opPow : D → D → Sto → R D
  | .int i, .int j, m => if 0 ≤ j ∧ j ≤ 1000000 ∧ i.natAbs < 2 ^ 64 then .ok (.int (i ^ j.toNat)) m else .bad
  | _, _, _ => .bad
theorem od_pow : OpD pw w opPow (rI CPow fun i j => .int (i ^ j.toNat)) := od_int (g := fun _ _ => .non) (fun da db m => by cases da <;> cases db <;> first | exact .inr rfl | exact .inl ⟨_, _, rfl, rfl⟩) fun x e m s H Q i j R q => by
  obtain ⟨hj, q⟩ := Fin.ite q
  exact ⟨hj, Fin.here R q (.int _)⟩
theorem de_pow {fa fb : SE} (ha : DK X w a fa) (hb : DK X w b fb) : DE X w (.BinOp a .Pow b pos) (sBin opPow fa fb) := de_bin op_pow od_pow ha hb
end
end Dl
set_option autoImplicit true
/-! The data layer: products. -/
namespace L2
open PySem PySem.Spec PyProof.Rows
theorem tuple_mulS (l : Addr) (items : Array Value) (n : Nat) (sl : Array (Option Value)) (dd : Option Addr) (u : Tok) :
    Meets (Builtin.«tuple.__mul__» ⟨[.ref l, .int 1 u], []⟩) (fun _ R s => s.heap.get? l = some { cls := .type "tuple", dict := dd, data := .seq items n, slots := sl } ∧ R (.ok (.ret (Value.ref l))) s) :=
  .of_wp fun prog w A R s h => by
    obtain ⟨hp, g, d, tk, os⟩ := s
    obtain ⟨hl, h⟩ := h
    have f1 := AutoSeq1.idx_int
    have c1 : (items.isEmpty || (1 : Int) == 1) = true := by cases items.isEmpty <;> rfl
    wp_walk using wpAny_loadPart' hl
    repeat (first
      | (refine wpAny_ite_false (decide_eq_false (by decide)) ?_; wp_walk using wpAny_loadPart' hl)
      | (refine wpAny_ite_true (decide_eq_true c1) ?_; wp_walk using wpAny_loadPart' hl))
    exact ⟨_, rfl, h⟩
theorem tuple_mulE (l : Addr) (items : Array Value) (n : Nat) (sl : Array (Option Value)) (dd : Option Addr) (x : Int) (u : Tok) (h0 : x ≤ 0) (h1 : -(2 ^ 63) ≤ x) (hi : items.isEmpty = false) :
    Meets (Builtin.«tuple.__mul__» ⟨[.ref l, .int x u], []⟩) (fun _ R s => s.heap.get? l = some { cls := .type "tuple", dict := dd, data := .seq items n, slots := sl } ∧
      R (.ok (.ret (Value.ref s.heap.objs.size))) { s with heap := s.heap.push { cls := Value.type "tuple", data := Data.seq #[] }, toks := s.toks }) :=
  .of_wp fun prog w A R s h => by
    obtain ⟨hp, g, d, tk, os⟩ := s
    obtain ⟨hl, h⟩ := h
    have f1 := AutoSeq1.idx_int
    have c0 : (decide (x < -(2 ^ 63)) || decide (x ≥ 2 ^ 63)) = false := by
      rw [decide_eq_false (by omega), decide_eq_false (by omega)] <;> rfl
    have c1 : (items.isEmpty || x == 1) = false := by
      rw [hi, Bool.false_or]
      exact beq_eq_false_iff_ne.mpr (by omega)
    have c2 : (decide (x ≤ 0) || items.isEmpty) = true := by
      rw [decide_eq_true h0] <;> rfl
    wp_walk using wpAny_loadPart' hl
    repeat (first
      | (refine wpAny_ite_false (decide_eq_false (by rw [c0]; exact Bool.false_ne_true)) ?_; wp_walk using wpAny_loadPart' hl)
      | (refine wpAny_ite_false (decide_eq_false (by rw [c1]; exact Bool.false_ne_true)) ?_; wp_walk using wpAny_loadPart' hl)
      | (refine wpAny_ite_true (decide_eq_true c2) ?_; wp_walk using wpAny_loadPart' hl))
    exact ⟨_, rfl, h⟩
def rRepZ (K : PySem.W.Frag) : R2 := fun x y H Q => ∃ l k xs, x = .ref l ∧ y = .int k ∧ SqT K H l xs ∧ xs ≠ [] ∧ ((k = 1 ∧ Q (.ref l) H) ∨ (k ≤ 0 ∧ -1000 ≤ k ∧ ∀ p, H p = none → Q (.ref p) (upd H p (.tup []))))
section
variable {X : Cx}
theorem op_repZ : OpR X (binaryOp .Mult) (rRepZ X.K) := by
  intro pins s σ H x y v u Q I rx ry h
  obtain ⟨l, k, xs, rfl, rfl, hT, hne, q⟩ := h
  cases rx
  obtain ⟨t, rfl⟩ := ry
  obtain ⟨its, r, ⟨⟨cls, dd, data, sl⟩, ho, hc, n, hd⟩, hs⟩ := I.tuple hT
  simp only at hc hd
  subst hc hd
  have hle : its.length = xs.length := r.length.symm
  have hn : its ≠ [] := fun e => hne (by
    rw [e] at hle
    exact List.eq_nil_of_length_eq_zero hle.symm)
  have hi : its.toArray.isEmpty = false := by
    cases its with
    | nil => exact absurd rfl hn
    | cons a b => rfl
  refine wpAny_binaryOp_repeat_ref (T := "tuple") (U := "int") (by decide) ⟨_, ho, rfl⟩ (fun s' => typeIs_int s' k t) noFill_tuple_mul F.fills_int_mul F.slot_int_rmul repeat_tuple F.slot_int_index.lookup
    (call_meets F.slot_int_rmul (typeIs_int s k t) F.entry_int_rmul (F.args_int_rmul_2 _ _) (int_rmul_tuple k t l its.toArray n dd sl)
      ⟨ho, rfl, ⟨_, ho, rfl⟩, ?_⟩)
  rcases q with ⟨rfl, q⟩ | ⟨h0, h1, q⟩
  · exact call_meets F.slot_tuple_mul ⟨_, ho, rfl⟩ F.entry_tuple_mul (F.args_tuple_mul_2 _ _) (tuple_mulS l its.toArray n sl dd t) ⟨ho, ⟨.ref l, H, I, rfl, q⟩⟩
  · refine call_meets F.slot_tuple_mul ⟨_, ho, rfl⟩ F.entry_tuple_mul (F.args_tuple_mul_2 _ _) (tuple_mulE l its.toArray n sl dd k t h0 (by omega) hi) ⟨ho, ?_⟩
    refine ⟨.ref s.heap.objs.size, _, I.laid (t' := s.toks) (o := .tup []) (fun b ob q => Heap.get?_push_of_some _ q) (Nat.le_refl _) ?_, rfl, q _ (I.hok.fresh (Nat.le_refl _))⟩
    exact ⟨Nat.zero_le _, [], .nil, IsTup.new _ _⟩
theorem op_mul_str : OpR X (binaryOp .Mult) (fun x y H Q => ∃ z n, x = .str z ∧ y = .int n ∧ MulOk z n ∧ Q (.str (Txt.mul z n)) H) := by
  intro pins s σ H x y v u Q I rx ry h
  obtain ⟨z, n, rfl, rfl, hz, q⟩ := h
  obtain ⟨t, rfl⟩ := rx
  obtain ⟨t', rfl⟩ := ry
  exact SB.mul hz fun t' k => ⟨.str (Txt.mul z n), H, I.tok _, ⟨_, rfl⟩, q⟩
end
end L2
namespace Dl
open PySem PySem.Spec PyProof.Rows L2 TL
def Sml (k : Int) (n : Nat) : Prop := -1000 ≤ k ∧ k ≤ 1000 ∧ n ≤ 1000
instance (k : Int) (n : Nat) : Decidable (Sml k n) := inferInstanceAs (Decidable (_ ∧ _ ∧ _))
def opMul : D → D → Sto → R D
  | .int i, .int j, m => if (-(2 ^ 64) < i ∧ i < 2 ^ 64) ∨ (-(2 ^ 64) < j ∧ j < 2 ^ 64) then .ok (.int (i * j)) m else .bad
  | .str x, .int k, m => if Sml k x.length then .ok (.str (List.replicate k.toNat x).flatten) m else .bad
  | .lst x, .int k, m => if Sml k x.length then .ok (.lst (List.replicate k.toNat x).flatten) m else .bad
  | .tup x, .int k, m => if x ≠ [] ∧ Sml k x.length then .ok (.tup (List.replicate k.toNat x).flatten) m else .bad
  | _, _, _ => .bad
def rMulA (K : PySem.W.Frag) : R2 := fun x y H Q => rI CMul (fun i j => .int (i * j)) x y H Q ∨ (∃ z n, x = .str z ∧ y = .int n ∧ MulOk z n ∧ Q (.str (Txt.mul z n)) H) ∨ rRep x y H Q ∨ rRepT K x y H Q ∨ rRepZ K x y H Q
theorem op_mulA {X : Cx} : OpR X (binaryOp .Mult) (rMulA X.K) := OpR.or op_mul (OpR.or op_mul_str (OpR.or op_rep (OpR.or op_repT op_repZ)))
theorem txt_mul (x : List Nat) (k : Int) : Txt.mul ⟨x.toArray⟩ k = ⟨((List.replicate k.toNat x).flatten).toArray⟩ := by
  unfold Txt.mul
  by_cases h1 : k < 1
  · rw [if_pos h1]
    have : k.toNat = 0 := by omega
    rw [this]
    rfl
  · rw [if_neg h1]
    by_cases h2 : ((k == 1 || (⟨x.toArray⟩ : Str).length == 0) = true)
    · rw [if_pos h2]
      rw [Bool.or_eq_true] at h2
      rcases h2 with h2 | h2
      · have : k = 1 := by simpa using h2
        subst this
        simp
      · have : x = [] := by simpa [Str.length] using h2
        subst this
        simp
    · rw [if_neg h2]
      have e : ∀ (n : Nat) (acc : List Nat), ((List.replicate n x.toArray).foldl (· ++ ·) acc.toArray) = (acc ++ (List.replicate n x).flatten).toArray := by
        intro n
        induction n with
        | zero => intro acc; simp
        | succ n ih =>
          intro acc
          rw [List.replicate_succ, List.foldl_cons, List.replicate_succ, List.flatten_cons]
          have : acc.toArray ++ x.toArray = (acc ++ x).toArray := by simp
          rw [this, ih, List.append_assoc]
      have := e k.toNat []
      simp only [List.nil_append] at this
      exact congrArg Str.mk this
theorem Reps.rep {F : Hp} {io : List Addr} {ds : List D} {vs : List V} (h : Reps F io ds vs) : ∀ n : Nat, Reps F io (List.replicate n ds).flatten (List.replicate n vs).flatten
  | 0 => .nil
  | n + 1 => by
    rw [List.replicate_succ, List.replicate_succ, List.flatten_cons, List.flatten_cons]
    exact h.append (Reps.rep h n)
section
variable {X : Cx} {w : Wi} {a b : Expr} {pos : Pos}
theorem od_mul (K : PySem.W.Frag) : OpD pw w opMul (rMulA K) := by
  intro x e m s H Q da db va vb R pa pb h
  cases da <;> cases db <;> first
    | exact h.elim
    | skip
  · have ea := pa.int; have eb := pb.int
    subst ea eb
    obtain ⟨hz, h⟩ := Fin.ite h
    exact .inl ⟨_, _, rfl, rfl, hz, Fin.here R h (.int _)⟩
  · rename_i z k
    have ea := pa.str; have eb := pb.int
    subst ea eb
    obtain ⟨⟨h1, h2, h3⟩, h⟩ := Fin.ite h
    refine .inr (.inl ⟨_, _, rfl, rfl, ?_, ?_⟩)
    · have hz : (⟨z.toArray⟩ : Str).length = z.length := str_len z
      refine ⟨?_, fun h4 h5 => ?_, fun h4 h5 => ?_⟩
      · rw [decide_eq_false (by omega), decide_eq_false (by omega)] <;> rfl
      · rw [hz]
        have : (9223372036854775807 : Int) / k ≥ 9223372036854775807 / 1000 := by
          refine Int.le_ediv_of_mul_le (by omega) ?_
          have : (9223372036854775807 : Int) / 1000 * k ≤ 9223372036854775807 / 1000 * 1000 := Int.mul_le_mul_of_nonneg_left (by omega) (by decide)
          have h9 : (9223372036854775807 : Int) / 1000 * 1000 ≤ 9223372036854775807 := by decide
          omega
        have e63 : (2 : Int) ^ 63 - 1 = 9223372036854775807 := by decide
        rw [e63]
        have h8 : (9223372036854775807 : Int) / 1000 > 1000 := by decide
        omega
      · rw [hz]
        unfold Builtin.Str.tooLong
        rw [sizeLine_eq]
        refine decide_eq_false ?_
        have a1 : z.length * k.toNat ≤ 1000 * 1000 := Nat.mul_le_mul h3 (by omega)
        omega
    · rw [txt_mul]
      exact Fin.here R h (.str _)
  · rename_i l k
    obtain ⟨a, vs, rfl, haF, ha, q⟩ := pa.tup R
    have eb := pb.int
    subst eb
    obtain ⟨⟨hne, h1, h2, h3⟩, h⟩ := Fin.ite h
    have hv : vs ≠ [] := fun z => by
      subst z
      cases q
      exact hne rfl
    have hl := q.length
    by_cases k1 : k ≤ 0
    · refine .inr (.inr (.inr (.inr ⟨a, k, vs, rfl, rfl, SqT.of ha, hv, .inr ⟨k1, h1, ?_⟩⟩)))
      have k0 : k.toNat = 0 := by omega
      rw [k0] at h
      exact Fin.tuple R h .nil
    · by_cases k2 : k = 1
      · subst k2
        refine .inr (.inr (.inr (.inr ⟨a, 1, vs, rfl, rfl, SqT.of ha, hv, .inl ⟨rfl, ?_⟩⟩)))
        exact Fin.here R h (.tup haF (by simpa using q))
      · refine .inr (.inr (.inr (.inl ⟨a, k, vs, rfl, rfl, SqT.of ha, hv, by omega, h2, by omega, ?_⟩)))
        exact Fin.tuple R h (q.rep _)
  · rename_i l k
    obtain ⟨a, vs, rfl, ha, q⟩ := pa.lst R
    have eb := pb.int
    subst eb
    obtain ⟨⟨h1, h2, h3⟩, h⟩ := Fin.ite h
    have hl := q.length
    refine .inr (.inr (.inl ⟨a, k, vs, rfl, rfl, ha, by omega, by omega, ?_, ?_⟩))
    · have a1 : vs.length * k.toNat ≤ 1000 * 1000 := Nat.mul_le_mul (by omega) (by omega)
      rw [sizeLine_eq]
      omega
    · exact Fin.list R h (q.rep _)
theorem de_mul {fa fb : SE} (ha : DK X w a fa) (hb : DK X w b fb) : DE X w (.BinOp a .Mult b pos) (sBin opMul fa fb) := de_bin op_mulA (od_mul _) ha hb
end
end Dl
set_option autoImplicit true
/-! The data layer: comparisons, tests. -/
namespace Dl
open PySem PySem.Spec PyProof.Rows L2 TL

/-! ### data -/
mutual
def toPy : D → PyData
  | .non => .none
  | .bl b => .bool b
  | .int i => .int i
  | .str s => .str ⟨s.toArray⟩
  | .tup l => .tuple (toPys l)
  | .lst l => .list (toPys l)
  | .dct _ _ => .none
  | .own _ _ => .none
  | .obj _ => .none
  | .cst _ => .none
  | .fn _ _ => .none
  | .erx _ _ _ _ => .none
def toPys : List D → List PyData
  | [] => []
  | d :: l => toPy d :: toPys l
end
def eqD (a b : D) : Bool := PyData.eqv (toPy a) (toPy b)
def eqDs (a b : List D) : Bool := PyData.eqvAll (toPys a) (toPys b)
@[simp] theorem eqD_int (i j : Int) : eqD (.int i) (.int j) = (i == j) := rfl
@[simp] theorem eqD_bl (i j : Bool) : eqD (.bl i) (.bl j) = (i == j) := rfl
@[simp] theorem eqD_str (i j : List Nat) : eqD (.str i) (.str j) = (i == j) := by
  show ((⟨i.toArray⟩ : Str) == ⟨j.toArray⟩) = _
  rw [Bool.eq_iff_iff]
  simp
@[simp] theorem eqD_tup (i j : List D) : eqD (.tup i) (.tup j) = eqDs i j := rfl
@[simp] theorem eqD_lst (i j : List D) : eqD (.lst i) (.lst j) = eqDs i j := rfl
@[simp] theorem eqD_non : eqD .non .non = true := rfl
@[simp] theorem eqDs_nil : eqDs [] [] = true := rfl
@[simp] theorem eqDs_cons (a b : D) (r s : List D) : eqDs (a :: r) (b :: s) = (eqD a b && eqDs r s) := rfl
@[simp] theorem eqDs_nc (b : D) (s : List D) : eqDs [] (b :: s) = false := rfl
@[simp] theorem eqDs_cn (b : D) (s : List D) : eqDs (b :: s) [] = false := rfl
theorem eqDs_map {α : Type} [BEq α] [LawfulBEq α] {f : α → D} (h : ∀ a b, eqD (f a) (f b) = (a == b)) : ∀ l m : List α, eqDs (l.map f) (m.map f) = (l == m)
  | [], [] => rfl
  | [], _ :: _ => rfl
  | _ :: _, [] => rfl
  | a :: l, b :: m => by
    rw [List.map_cons, List.map_cons, eqDs_cons, h, eqDs_map h l m]
    rfl
/-- plain data, nested to a depth -/
def okN : Nat → D → Bool
  | _, .non => true
  | _, .bl _ => true
  | _, .int _ => true
  | _, .str s => s.all (· < 1114112)
  | n + 1, .tup l => l.all (okN n)
  | n + 1, .lst l => l.all (okN n)
  | _, _ => false
@[simp] theorem okN_non (n : Nat) : okN n .non = true := by cases n <;> rfl
@[simp] theorem okN_bl (n : Nat) (b : Bool) : okN n (.bl b) = true := by cases n <;> rfl
@[simp] theorem okN_int (n : Nat) (i : Int) : okN n (.int i) = true := by cases n <;> rfl
@[simp] theorem okN_str (n : Nat) (s : List Nat) : okN n (.str s) = s.all (· < 1114112) := by cases n <;> rfl
@[simp] theorem okN_tup (n : Nat) (l : List D) : okN (n + 1) (.tup l) = l.all (okN n) := rfl
@[simp] theorem okN_lst (n : Nat) (l : List D) : okN (n + 1) (.lst l) = l.all (okN n) := rfl
theorem okN_py : ∀ (n : Nat) (d : D), okN n d = true → (toPy d).canLay0 = true ∧ (toPy d).depth ≤ n := by
  have str : ∀ (n : Nat) (s : List Nat), s.all (· < 1114112) = true → (toPy (.str s)).canLay0 = true ∧ (toPy (.str s)).depth ≤ n := fun n s h => by
    refine ⟨?_, Nat.zero_le _⟩
    show PyData.strOk ⟨s.toArray⟩ = true
    unfold PyData.strOk
    simpa using h
  have lst : ∀ (n : Nat), (∀ d, okN n d = true → (toPy d).canLay0 = true ∧ (toPy d).depth ≤ n) → ∀ l : List D, l.all (okN n) = true → PyData.canLayAll0 (toPys l) = true ∧ PyData.depthAll (toPys l) ≤ n := by
    intro n ih l
    induction l with
    | nil => exact fun _ => ⟨rfl, Nat.zero_le _⟩
    | cons d l il =>
      intro h
      rw [List.all_cons, Bool.and_eq_true] at h
      obtain ⟨a1, a2⟩ := ih d h.1
      obtain ⟨b1, b2⟩ := il h.2
      refine ⟨?_, ?_⟩
      · show (PyData.canLay0 (toPy d) && PyData.canLayAll0 (toPys l)) = true
        rw [a1, b1]
        rfl
      · show max (PyData.depth (toPy d)) (PyData.depthAll (toPys l)) ≤ n
        omega
  intro n
  induction n with
  | zero =>
    intro d h
    cases d with
    | non => exact ⟨rfl, Nat.le_refl _⟩
    | bl b => exact ⟨rfl, Nat.le_refl _⟩
    | int i => exact ⟨rfl, Nat.le_refl _⟩
    | str s => exact str 0 s h
    | tup l => exact absurd h Bool.false_ne_true
    | lst l => exact absurd h Bool.false_ne_true
    | dct k v => exact absurd h Bool.false_ne_true
    | own k v => exact absurd h Bool.false_ne_true
    | obj k => exact absurd h Bool.false_ne_true
    | cst k => exact absurd h Bool.false_ne_true
    | fn k l => exact absurd h Bool.false_ne_true
    | erx k l k' l' => exact absurd h Bool.false_ne_true
  | succ n ih =>
    intro d h
    cases d with
    | non => exact ⟨rfl, Nat.zero_le _⟩
    | bl b => exact ⟨rfl, Nat.zero_le _⟩
    | int i => exact ⟨rfl, Nat.zero_le _⟩
    | str s => exact str _ s h
    | tup l =>
      obtain ⟨a1, a2⟩ := lst n ih l h
      exact ⟨a1, Nat.succ_le_succ a2⟩
    | lst l =>
      obtain ⟨a1, a2⟩ := lst n ih l h
      exact ⟨a1, Nat.succ_le_succ a2⟩
    | dct k v => exact absurd h Bool.false_ne_true
    | own k v => exact absurd h Bool.false_ne_true
    | obj k => exact absurd h Bool.false_ne_true
    | cst k => exact absurd h Bool.false_ne_true
    | fn k l => exact absurd h Bool.false_ne_true
    | erx k l k' l' => exact absurd h Bool.false_ne_true
theorem okN_shaped {d : D} (h : okN 60 d = true) : SeqAt.shaped (toPy d) = true := by
  obtain ⟨a, b⟩ := okN_py 60 d h
  unfold SeqAt.shaped
  rw [a, decide_eq_true (by omega)]
  rfl
theorem rep_dp {K : PySem.W.Frag} {F H : Hp} {io : List Addr} (hs : Sub F H) : ∀ (n : Nat) (d : D) (v : V), okN n d = true → Rep F io d v → Dp K H v (toPy d) := by
  have all : ∀ (n : Nat), (∀ d v, okN n d = true → Rep F io d v → Dp K H v (toPy d)) → ∀ (l : List D) (vs : List V), l.all (okN n) = true → Reps F io l vs → DpAll K H vs (toPys l) := by
    intro n ih l
    induction l with
    | nil =>
      intro vs _ q
      cases q
      exact .nil
    | cons d l il =>
      intro vs h q
      rw [List.all_cons, Bool.and_eq_true] at h
      cases q with
      | cons r t => exact .cons (ih _ _ h.1 r) (il _ h.2 t)
  intro n
  induction n with
  | zero =>
    intro d v h r
    cases r with
    | non => exact .non
    | bl b => exact .bl b
    | int i => exact .int i
    | str s => exact .str _
    | _ => exact absurd h Bool.false_ne_true
  | succ n ih =>
    intro d v h r
    cases r with
    | non => exact .non
    | bl b => exact .bl b
    | int i => exact .int i
    | str s => exact .str _
    | tup e q => exact .tup (SqT.of (hs _ _ e)) (all n ih _ _ h q)
    | lst e q => exact .lst (SqL.of (hs _ _ e)) (all n ih _ _ h q)
    | obj e => exact absurd h Bool.false_ne_true
    | cst k => exact absurd h Bool.false_ne_true
    | fn e1 e2 e3 => exact absurd h Bool.false_ne_true
    | erx e1 => exact absurd h Bool.false_ne_true
    | dct e q => exact absurd h Bool.false_ne_true
theorem reps_dp {K : PySem.W.Frag} {F H : Hp} {io : List Addr} (hs : Sub F H) (n : Nat) : ∀ (l : List D) (vs : List V), l.all (okN n) = true → Reps F io l vs → DpAll K H vs (toPys l)
  | [], _, _, .nil => .nil
  | d :: l, _, h, .cons r t => by
    rw [List.all_cons, Bool.and_eq_true] at h
    exact .cons (rep_dp hs n _ _ h.1 r) (reps_dp hs n l _ h.2 t)
theorem Pk.dp {K : PySem.W.Frag} {x : Sx pw} {r : Env} {m : Sto} {s : L2.St} {H : Hp} {d : D} {v : V} (h : Pk x H d v) (R : Rel x r m s H) (o : okN 60 d = true) : Dp K H v (toPy d) := by
  rcases h with h | ⟨ds, vs, a, rfl, rfl, ha, e, q⟩ | ⟨ks, vs, xs, ep, a, rfl, rfl, ha, e, q⟩
  · exact rep_dp R.sub 60 d v o h
  · exact .lst (SqL.of e) (reps_dp R.sub 59 _ _ o q)
  · exact absurd o Bool.false_ne_true

section
variable {X : Cx} {w : Wi} {a b c e : Expr} {rest : List Expr} {pos : Pos} {fa fb fc : SE}
/-! ### comparisons -/
theorem de_cmp {op : CmpOp} {f : D → D → Sto → R D} {r : R2} (ho : OpR X (compareOp op) r) (h : OpD (pwOf X) w f r) (ha : DK X w a fa) (hb : DK X w b fb) (hm : behindInMarks op b = false) : DE X w (.Compare a [op] [b] pos) (sBin f fa fb) :=
  PE.imp (pe_cmpR ho ha hb hm) fun s H Q q => rd_bin h s H Q q
/-- a value as a test -/
def sB (f : SE) : SB := fun r m => bindR (f r m) fun d m => match d with
  | .bl b => .ok b m
  | _ => .bad
theorem fin_sB {x : Sx pw} {r : Env} {s : L2.St} {H : Hp} {Q : Bool → Hp → Prop} {t : R D} (h : Fin PB w x r s H Q (bindR t fun d m => match d with | .bl b => .ok b m | _ => .bad)) : Fin PV w x r s H (fun v H' => ∃ c, v = .bl c ∧ Q c H') t := by
  cases t with
  | ok d m =>
    cases d with
    | bl b =>
      intro v y H' R p st
      cases p
      exact ⟨b, rfl, h b y H' R rfl st⟩
    | _ => exact h.elim
  | exc c v m => exact h
  | bad => exact h
theorem dt_cmp {op : CmpOp} {f : D → D → Sto → R D} {r : R2} (ho : OpR X (compareOp op) r) (h : OpD (pwOf X) w f r) (ha : DK X w a fa) (hb : DK X w b fb) (hm : behindInMarks op b = false) : DT X w (.Compare a [op] [b] pos) (sB (sBin f fa fb)) :=
  PT.imp (pt_cmpR ho ha hb hm) fun s H Q ⟨x, e, m, R, q⟩ => rd_bin h s H _ ⟨x, e, m, R, fin_sB q⟩
theorem dt_val {f : SE} (h : DE X w e f) (he : ∀ whole, isTrue e X.env whole = (do let v ← whole; standAt e.pos; holding [v] (truthy v)) := by intro _; rfl) : DT X w e (sB f) :=
  PT.imp (pt_val h he) fun s H Q ⟨x, r, m, R, q⟩ => ⟨x, r, m, R, fin_sB q⟩
def opLt : D → D → Sto → R D
  | .int i, .int j, m => .ok (.bl (decide (i < j))) m
  | _, _, _ => .bad
def opLe : D → D → Sto → R D
  | .int i, .int j, m => .ok (.bl (decide (i ≤ j))) m
  | _, _, _ => .bad
def opGt : D → D → Sto → R D
  | .int i, .int j, m => .ok (.bl (decide (j < i))) m
  | _, _, _ => .bad
def opGe : D → D → Sto → R D
  | .int i, .int j, m => .ok (.bl (decide (j ≤ i))) m
  | _, _, _ => .bad
theorem od_lt : OpD pw w opLt (rI0 fun i j => .bl (decide (i < j))) := od_int (g := fun _ _ => .non) (fun da db m => by cases da <;> cases db <;> first | exact .inr rfl | exact .inl ⟨_, _, rfl, rfl⟩) fun x e m s H Q i j R q => Fin.here R q (.bl _)
theorem od_le : OpD pw w opLe (rI0 fun i j => .bl (decide (i ≤ j))) := od_int (g := fun _ _ => .non) (fun da db m => by cases da <;> cases db <;> first | exact .inr rfl | exact .inl ⟨_, _, rfl, rfl⟩) fun x e m s H Q i j R q => Fin.here R q (.bl _)
theorem od_gt : OpD pw w opGt (rI0 fun i j => .bl (decide (j < i))) := od_int (g := fun _ _ => .non) (fun da db m => by cases da <;> cases db <;> first | exact .inr rfl | exact .inl ⟨_, _, rfl, rfl⟩) fun x e m s H Q i j R q => Fin.here R q (.bl _)
theorem od_ge : OpD pw w opGe (rI0 fun i j => .bl (decide (j ≤ i))) := od_int (g := fun _ _ => .non) (fun da db m => by cases da <;> cases db <;> first | exact .inr rfl | exact .inl ⟨_, _, rfl, rfl⟩) fun x e m s H Q i j R q => Fin.here R q (.bl _)
def opEq (a b : D) (m : Sto) : R D := if okN 60 a = true ∧ okN 60 b = true then .ok (.bl (eqD a b)) m else .bad
def opNe (a b : D) (m : Sto) : R D := if okN 60 a = true ∧ okN 60 b = true then .ok (.bl (!eqD a b)) m else .bad
theorem od_eq (K : PySem.W.Frag) : OpD pw w opEq (rEqD K) := by
  intro x e m s H Q da db va vb R pa pb h
  obtain ⟨⟨h1, h2⟩, h⟩ := Fin.ite h
  exact ⟨toPy da, toPy db, pa.dp R h1, pb.dp R h2, okN_shaped h1, okN_shaped h2, Fin.here R h (.bl _)⟩
theorem od_ne (K : PySem.W.Frag) : OpD pw w opNe (rNeD K) := by
  intro x e m s H Q da db va vb R pa pb h
  obtain ⟨⟨h1, h2⟩, h⟩ := Fin.ite h
  exact ⟨toPy da, toPy db, pa.dp R h1, pb.dp R h2, okN_shaped h1, okN_shaped h2, Fin.here R h (.bl _)⟩
/-- in, not in -/
def flatD : D → Bool
  | .non => true
  | .bl _ => true
  | .int _ => true
  | .str _ => true
  | _ => false
def inD (d : D) : D → Option Bool
  | .str z => (match d with
    | .str [c] => some (decide (c ∈ z))
    | _ => none)
  | .tup l => if flatD d = true ∧ l.all flatD = true then some (l.any fun y => eqD y d) else none
  | .lst l => if flatD d = true ∧ l.all flatD = true then some (l.any fun y => eqD y d) else none
  | _ => none
def opIn (a b : D) (m : Sto) : R D := ofO ((inD a b).map D.bl) m
def opNin (a b : D) (m : Sto) : R D := ofO ((inD a b).map fun k => D.bl (!k)) m
theorem flat_rep {F : Hp} {io : List Addr} {d : D} {v : V} (h : Rep F io d v) (f : flatD d = true) : flatV v = true ∧ (∀ d', flatD d' = true → ∀ v', Rep F io d' v' → eqV v v' = eqD d d') := by
  cases h with
  | non =>
    refine ⟨rfl, fun d' f' v' r => ?_⟩
    cases r <;> first | rfl | exact absurd f' Bool.false_ne_true
  | bl b =>
    refine ⟨rfl, fun d' f' v' r => ?_⟩
    cases r <;> first | rfl | exact absurd f' Bool.false_ne_true
  | int b =>
    refine ⟨rfl, fun d' f' v' r => ?_⟩
    cases r <;> first | rfl | exact absurd f' Bool.false_ne_true
  | str b =>
    refine ⟨rfl, fun d' f' v' r => ?_⟩
    cases r <;> first | rfl | exact absurd f' Bool.false_ne_true
  | _ => exact absurd f Bool.false_ne_true
theorem flat_reps {F : Hp} {io : List Addr} {d : D} {v : V} (r : Rep F io d v) (fd : flatD d = true) : ∀ {l : List D} {vs : List V}, Reps F io l vs → l.all flatD = true → vs.all flatV = true ∧ inV v vs = l.any fun y => eqD y d
  | _, _, .nil, _ => ⟨rfl, rfl⟩
  | d' :: l, v' :: vs, .cons r' t, f => by
    rw [List.all_cons, Bool.and_eq_true] at f
    obtain ⟨a1, a2⟩ := flat_rep r' f.1
    obtain ⟨b1, b2⟩ := flat_reps r fd t f.2
    refine ⟨by rw [List.all_cons, a1, b1]; rfl, ?_⟩
    show (eqV v' v || inV v vs) = _
    rw [a2 d fd v r, b2, List.any_cons]
def rInA (K : PySem.W.Frag) (neg : Bool) : R2 := fun x y H Q => (∃ (c : Nat) (z : Str), x = .str ⟨#[c]⟩ ∧ y = .str z ∧ Q (.bl (if neg then !decide (c ∈ z.cps.toList) else decide (c ∈ z.cps.toList))) H) ∨ rIn K neg x y H Q
theorem op_inA : OpR X (compareOp .In) (rInA X.K false) := OpR.or op_in_sign op_in_seq
theorem op_ninA : OpR X (compareOp .NotIn) (rInA X.K true) := OpR.or op_notIn_sign op_notIn_seq
theorem Pk.flat {x : Sx pw} {H : Hp} {d : D} {v : V} (h : Pk x H d v) (f : flatD d = true) : Rep x.F x.io d v := by
  rcases h with h | ⟨ds, vs, a, rfl, rfl, ha, e, q⟩ | ⟨ks, vs, xs, ep, a, rfl, rfl, ha, e, q⟩
  · exact h
  · exact absurd f Bool.false_ne_true
  · exact absurd f Bool.false_ne_true
theorem od_inA (K : PySem.W.Frag) (neg : Bool) : OpD pw w (fun a b m => ofO ((inD a b).map fun k => D.bl (if neg then !k else k)) m) (rInA K neg) := by
  intro x e m s H Q da db va vb R pa pb h
  cases db with
  | str z =>
    have eb := pb.str
    subst eb
    cases da with
    | str l =>
      have ea := pa.str
      subst ea
      match l, h with
      | [c], h => exact .inl ⟨c, _, rfl, rfl, Fin.here R h (.bl _)⟩
      | [], h => exact h.elim
      | _ :: _ :: _, h => exact h.elim
    | _ => exact h.elim
  | tup l =>
    obtain ⟨p, vs, rfl, _, hp, q⟩ := pb.tup R
    by_cases hc : flatD da = true ∧ l.all flatD = true
    · have e1 : inD da (.tup l) = some (l.any fun y => eqD y da) := if_pos hc
      dsimp only at h
      rw [e1] at h
      obtain ⟨b1, b2⟩ := flat_reps (pa.flat hc.1) hc.1 q hc.2
      refine .inr ⟨p, vs, rfl, .inr (SqT.of hp), (flat_rep (pa.flat hc.1) hc.1).1, b1, ?_⟩
      rw [b2]
      exact Fin.here R h (.bl _)
    · have e1 : inD da (.tup l) = none := if_neg hc
      dsimp only at h
      rw [e1] at h
      exact h.elim
  | lst l =>
    obtain ⟨p, vs, rfl, hp, q⟩ := pb.lst R
    by_cases hc : flatD da = true ∧ l.all flatD = true
    · have e1 : inD da (.lst l) = some (l.any fun y => eqD y da) := if_pos hc
      dsimp only at h
      rw [e1] at h
      obtain ⟨b1, b2⟩ := flat_reps (pa.flat hc.1) hc.1 q hc.2
      refine .inr ⟨p, vs, rfl, .inl (SqL.of hp), (flat_rep (pa.flat hc.1) hc.1).1, b1, ?_⟩
      rw [b2]
      exact Fin.here R h (.bl _)
    · have e1 : inD da (.lst l) = none := if_neg hc
      dsimp only at h
      rw [e1] at h
      exact h.elim
  | _ => exact h.elim
theorem od_in (K : PySem.W.Frag) : OpD pw w opIn (rInA K false) := od_inA K false
theorem od_nin (K : PySem.W.Frag) : OpD pw w opNin (rInA K true) := od_inA K true
/-- is None -/
def isNonD : D → Option Bool
  | .non => some true
  | .cst _ => none
  | _ => some false
def opIs : D → D → Sto → R D
  | a, .non, m => ofO ((isNonD a).map D.bl) m
  | _, _, _ => .bad
def opIsn : D → D → Sto → R D
  | a, .non, m => ofO ((isNonD a).map fun k => D.bl (!k)) m
  | _, _, _ => .bad
theorem Pk.isNon {x : Sx pw} {H : Hp} {d : D} {v : V} (h : Pk x H d v) {k : Bool} (e : isNonD d = some k) : decide (v = .non) = k := by
  rcases h with h | ⟨ds, vs, a, rfl, rfl, ha, _, q⟩ | ⟨ks, vs, xs, ep, a, rfl, rfl, ha, _, q⟩
  · cases h <;> first | (cases e; done) | (cases e; simp)
  · cases e
    simp
  · cases e
    simp
theorem od_is : OpD pw w opIs (fun x y H Q => y = .non ∧ Q (.bl (decide (x = .non))) H) := by
  intro x e m s H Q da db va vb R pa pb h
  cases db with
  | non =>
    have eb := pb.non
    refine ⟨eb, ?_⟩
    have h : Fin PV w x e s H Q (ofO ((isNonD da).map D.bl) m) := h
    cases ek : isNonD da with
    | none =>
      rw [ek] at h
      exact h.elim
    | some k =>
      rw [ek] at h
      rw [pa.isNon ek]
      exact Fin.here R h (.bl _)
  | _ => exact h.elim
theorem od_isn : OpD pw w opIsn (fun x y H Q => y = .non ∧ Q (.bl (!decide (x = .non))) H) := by
  intro x e m s H Q da db va vb R pa pb h
  cases db with
  | non =>
    have eb := pb.non
    refine ⟨eb, ?_⟩
    have h : Fin PV w x e s H Q (ofO ((isNonD da).map fun k => D.bl (!k)) m) := h
    cases ek : isNonD da with
    | none =>
      rw [ek] at h
      exact h.elim
    | some k =>
      rw [ek] at h
      rw [pa.isNon ek]
      exact Fin.here R h (.bl _)
  | _ => exact h.elim

/-! ### and, or, not -/
def sAnd (t u : SB) : SB := fun r m => bindR (t r m) fun b m => if b = true then u r m else .ok false m
def sOr (t u : SB) : SB := fun r m => bindR (t r m) fun b m => if b = true then .ok true m else u r m
def sNot (t : SB) : SB := fun r m => bindR (t r m) fun b m => .ok (!b) m
variable {ta tb tc : SB}
theorem dw_and1 (h : DT X w a ta) : DW X w (.BoolOp .And [a] pos) ta := pw_and1 h
theorem dw_or1 (h : DT X w a ta) : DW X w (.BoolOp .Or [a] pos) ta := pw_or1 h
theorem dw_and (ha : DT X w a ta) (hb : DW X w (.BoolOp .And (b :: rest) pos) tb) : DW X w (.BoolOp .And (a :: b :: rest) pos) (sAnd ta tb) :=
  PW.imp (pw_and ha hb) fun s H Q ⟨x, r, m, R, q⟩ => by
    refine rd_bind R q fun k m1 v y H1 R1 p1 st1 q1 => ?_
    cases p1
    cases k with
    | true =>
      rw [if_pos rfl] at q1 ⊢
      exact ⟨y, r, m1, R1, q1⟩
    | false =>
      rw [if_neg Bool.false_ne_true] at q1 ⊢
      exact Fin.here R1 q1 rfl
theorem dw_or (ha : DT X w a ta) (hb : DW X w (.BoolOp .Or (b :: rest) pos) tb) : DW X w (.BoolOp .Or (a :: b :: rest) pos) (sOr ta tb) :=
  PW.imp (pw_or ha hb) fun s H Q ⟨x, r, m, R, q⟩ => by
    refine rd_bind R q fun k m1 v y H1 R1 p1 st1 q1 => ?_
    cases p1
    cases k with
    | true =>
      rw [if_pos rfl] at q1 ⊢
      exact Fin.here R1 q1 rfl
    | false =>
      rw [if_neg Bool.false_ne_true] at q1 ⊢
      exact ⟨y, r, m1, R1, q1⟩
theorem dt_w (h : DW X w e ta) : DT X w e ta := PW.pt h
theorem dt_not (ha : DT X w a ta) : DT X w (.UnaryOp .Not a pos) (sNot ta) :=
  PT.imp (pt_not ha) fun s H Q ⟨x, r, m, R, q⟩ => by
    refine rd_bind R q fun k m1 v y H1 R1 p1 st1 q1 => ?_
    cases p1
    exact Fin.here R1 q1 rfl
/-- as values -/
def sAndV (fa fb : SE) : SE := fun r m => bindR (sB fa r m) fun b m => if b = true then fb r m else .ok (.bl false) m
def sOrV (fa fb : SE) : SE := fun r m => bindR (sB fa r m) fun b m => if b = true then .ok (.bl true) m else fb r m
def sNotV (fa : SE) : SE := fun r m => bindR (sB fa r m) fun b m => .ok (.bl (!b)) m
theorem rd_bindB {f : SE} {g : Bool → Sto → R D} {x : Sx pw} {r : Env} {m : Sto} {s : L2.St} {H : Hp} {Q : VK} {K : V → Hp → Prop} (R : Rel x r m s H) (h : Fin PV w x r s H Q (bindR (sB f r m) g))
    (k : ∀ c m' y H', Rel y r m' s H' → StE x H y H' → Fin PV w y r s H' Q (g c m') → K (.bl c) H') : rd (PV (pw := pw)) w f s H K := by
  have h' : Fin PV w x r s H Q (bindR (f r m) fun d m => bindR (match d with | .bl b => .ok b m | _ => .bad) g) := by
    unfold sB at h
    cases e : f r m with
    | ok d m' =>
      rw [e] at h
      exact h
    | exc c v m' =>
      rw [e] at h
      exact h
    | bad =>
      rw [e] at h
      exact h
  refine rd_bind R h' fun d m1 v y H1 R1 p1 st1 q1 => ?_
  cases d with
  | bl c =>
    cases p1
    exact k c m1 y H1 R1 st1 q1
  | _ => exact q1.elim
theorem de_one {op} {f : SE} (h : DE X w a f) : DE X w (.BoolOp op [a] pos) f := pe_one h
theorem de_and (ha : DE X w a fa) (hb : DE X w (.BoolOp .And (b :: rest) pos) fb) : DE X w (.BoolOp .And (a :: b :: rest) pos) (sAndV fa fb) :=
  PE.imp (pe_and ha hb) fun s H Q ⟨x, r, m, R, q⟩ => by
    refine rd_bindB R q fun c m1 y H1 R1 st1 q1 => ⟨c, rfl, ?_⟩
    cases c with
    | true =>
      rw [if_pos rfl] at q1 ⊢
      exact ⟨y, r, m1, R1, q1⟩
    | false =>
      rw [if_neg Bool.false_ne_true] at q1 ⊢
      exact Fin.here R1 q1 (.bl _)
theorem de_or (ha : DE X w a fa) (hb : DE X w (.BoolOp .Or (b :: rest) pos) fb) : DE X w (.BoolOp .Or (a :: b :: rest) pos) (sOrV fa fb) :=
  PE.imp (pe_or ha hb) fun s H Q ⟨x, r, m, R, q⟩ => by
    refine rd_bindB R q fun c m1 y H1 R1 st1 q1 => ⟨c, rfl, ?_⟩
    cases c with
    | true =>
      rw [if_pos rfl] at q1 ⊢
      exact Fin.here R1 q1 (.bl _)
    | false =>
      rw [if_neg Bool.false_ne_true] at q1 ⊢
      exact ⟨y, r, m1, R1, q1⟩
theorem de_not (ha : DE X w a fa) : DE X w (.UnaryOp .Not a pos) (sNotV fa) :=
  PE.imp (pe_not ha) fun s H Q ⟨x, r, m, R, q⟩ => by
    refine rd_bindB R q fun c m1 y H1 R1 st1 q1 => ⟨c, rfl, ?_⟩
    exact Fin.here R1 q1 (.bl _)
/-- a if t else b -/
def sIf (t : SB) (fa fb : SE) : SE := fun r m => bindR (t r m) fun b m => if b = true then fa r m else fb r m
theorem de_if (hc : DT X w c tc) (ha : DE X w a fa) (hb : DE X w b fb) : DE X w (.IfExp c a b pos) (sIf tc fa fb) :=
  PE.imp (pe_ifExp hc ha hb) fun s H Q ⟨x, r, m, R, q⟩ => by
    refine rd_bind R q fun k m1 v y H1 R1 p1 st1 q1 => ?_
    cases p1
    cases k with
    | true =>
      rw [if_pos rfl] at q1 ⊢
      exact ⟨y, r, m1, R1, q1⟩
    | false =>
      rw [if_neg Bool.false_ne_true] at q1 ⊢
      exact ⟨y, r, m1, R1, q1⟩
/-- a op b op' c -/
def sChain (f g : D → D → Sto → R D) (fa fb fc : SE) : SE := fun r m => bindR (fa r m) fun x m => bindR (fb r m) fun y m => bindR (f x y m) fun k m => match k with
  | .bl true => bindR (fc r m) fun z m => g y z m
  | .bl false => .ok (.bl false) m
  | _ => .bad
/-- a comparison that makes nothing: its answer at once -/
def CmD (pw : PWd) (f : D → D → Sto → R D) (r : R2) : Prop := ∀ (x : Sx pw) (e : Env) (m : Sto) (s : L2.St) (H : Hp) (da db : D) (va vb : V), Rel x e m s H → Pk x H da va → Pk x H db vb → (f da db m = .bad) ∨ ∃ k, f da db m = .ok (.bl k) m ∧ ∀ Q : VK, Q (.bl k) H → r va vb H Q
theorem cm_int {f : D → D → Sto → R D} {g : Int → Int → Bool} (h1 : ∀ i j m, f (.int i) (.int j) m = .ok (.bl (g i j)) m) (h2 : ∀ da db m, (∃ i j, da = .int i ∧ db = .int j) ∨ f da db m = .bad) : CmD pw f (rI0 fun i j => .bl (g i j)) := by
  intro x e m s H da db va vb R pa pb
  rcases h2 da db m with ⟨i, j, rfl, rfl⟩ | z
  · have ea := pa.int; have eb := pb.int
    subst ea eb
    exact .inr ⟨g i j, h1 i j m, fun Q q => ⟨i, j, rfl, rfl, q⟩⟩
  · exact .inl z
theorem cm_lt : CmD pw opLt (rI0 fun i j => .bl (decide (i < j))) := cm_int (fun _ _ _ => rfl) fun da db m => by cases da <;> cases db <;> first | exact .inr rfl | exact .inl ⟨_, _, rfl, rfl⟩
theorem cm_le : CmD pw opLe (rI0 fun i j => .bl (decide (i ≤ j))) := cm_int (fun _ _ _ => rfl) fun da db m => by cases da <;> cases db <;> first | exact .inr rfl | exact .inl ⟨_, _, rfl, rfl⟩
theorem rd_chain {f g : D → D → Sto → R D} {r r' : R2} (hf : CmD pw f r) (hg : OpD pw w g r') (s : L2.St) (H : Hp) (Q : VK) (q : rd (PV (pw := pw)) w (sChain f g fa fb fc) s H Q) : tChain r r' (rd (Pk (pw := pw)) w fa) (rd (Pk (pw := pw)) w fb) (rd (Pk (pw := pw)) w fc) s H Q := by
  obtain ⟨x, e, m, R, q⟩ := q
  refine rd_bind R q fun da m1 va y H1 R1 p1 st1 q1 => ?_
  refine rd_bind R1 q1 fun db m2 vb z H2 R2 p2 st2 q2 => ?_
  rcases hf z e m2 s H2 da db va vb R2 (p1.stay R1 st2) p2 with z1 | ⟨k, z1, hr⟩
  · rw [z1] at q2
    exact q2.elim
  · rw [z1] at q2
    refine hr _ ⟨k, rfl, ?_⟩
    cases k with
    | false =>
      rw [if_neg Bool.false_ne_true]
      exact Fin.here R2 q2 (.bl _)
    | true =>
      rw [if_pos rfl]
      refine rd_bind R2 q2 fun dc m3 vc u H3 R3 p3 st3 q3 => ?_
      exact hg u e m3 s H3 Q db dc vb vc R3 (p2.stay R2 st3) p3 q3
theorem de_chain {op op' : CmpOp} {f g : D → D → Sto → R D} {r r' : R2} (ho : OpR X (compareOp op) r) (ho' : OpR X (compareOp op') r') (hf : CmD (pwOf X) f r) (hg : OpD (pwOf X) w g r') (ha : DK X w a fa) (hb : DK X w b fb) (hc : DK X w c fc)
    (hm : lastMarks [op, op'] [b, c] = false := by with_unfolding_all rfl) : DE X w (.Compare a [op, op'] [b, c] pos) (sChain f g fa fb fc) :=
  PE.imp (pe_chain ho ho' ha hb hc hm) fun s H Q q => rd_chain hf hg s H Q q
theorem dt_chain {op op' : CmpOp} {f g : D → D → Sto → R D} {r r' : R2} (ho : OpR X (compareOp op) r) (ho' : OpR X (compareOp op') r') (hf : CmD (pwOf X) f r) (hg : OpD (pwOf X) w g r') (ha : DK X w a fa) (hb : DK X w b fb) (hc : DK X w c fc)
    (hm : lastMarks [op, op'] [b, c] = false := by with_unfolding_all rfl) : DT X w (.Compare a [op, op'] [b, c] pos) (sB (sChain f g fa fb fc)) :=
  PT.imp (pt_chain ho ho' ha hb hc hm) fun s H Q ⟨x, e, m, R, q⟩ => rd_chain hf hg s H _ ⟨x, e, m, R, fin_sB q⟩
/-! ### short names -/
theorem de_lt (ha : DK X w a fa) (hb : DK X w b fb) : DE X w (.Compare a [.Lt] [b] pos) (sBin opLt fa fb) := de_cmp op_lt od_lt ha hb (nomark _)
theorem de_le (ha : DK X w a fa) (hb : DK X w b fb) : DE X w (.Compare a [.LtE] [b] pos) (sBin opLe fa fb) := de_cmp op_le od_le ha hb (nomark _)
theorem de_gt (ha : DK X w a fa) (hb : DK X w b fb) : DE X w (.Compare a [.Gt] [b] pos) (sBin opGt fa fb) := de_cmp op_gt od_gt ha hb (nomark _)
theorem de_ge (ha : DK X w a fa) (hb : DK X w b fb) : DE X w (.Compare a [.GtE] [b] pos) (sBin opGe fa fb) := de_cmp op_ge od_ge ha hb (nomark _)
theorem de_eq (hu : X.A.units + 64 < cLine) (ha : DK X w a fa) (hb : DK X w b fb) : DE X w (.Compare a [.Eq] [b] pos) (sBin opEq fa fb) := de_cmp (op_eqD hu) (od_eq _) ha hb (nomark _)
theorem de_ne (hu : X.A.units + 64 < cLine) (ha : DK X w a fa) (hb : DK X w b fb) : DE X w (.Compare a [.NotEq] [b] pos) (sBin opNe fa fb) := de_cmp (op_neD hu) (od_ne _) ha hb (nomark _)
theorem de_in (ha : DK X w a fa) (hb : DK X w b fb) (hm : behindInMarks .In b = false := by rfl) : DE X w (.Compare a [.In] [b] pos) (sBin opIn fa fb) := de_cmp op_inA (od_in _) ha hb hm
theorem de_nin (ha : DK X w a fa) (hb : DK X w b fb) (hm : behindInMarks .NotIn b = false := by rfl) : DE X w (.Compare a [.NotIn] [b] pos) (sBin opNin fa fb) := de_cmp op_ninA (od_nin _) ha hb hm
theorem de_is (ha : DK X w a fa) (hb : DK X w b fb) : DE X w (.Compare a [.Is] [b] pos) (sBin opIs fa fb) := de_cmp op_isN od_is ha hb (nomark _)
theorem de_isn (ha : DK X w a fa) (hb : DK X w b fb) : DE X w (.Compare a [.IsNot] [b] pos) (sBin opIsn fa fb) := de_cmp op_notN od_isn ha hb (nomark _)
theorem dt_lt (ha : DK X w a fa) (hb : DK X w b fb) : DT X w (.Compare a [.Lt] [b] pos) (sB (sBin opLt fa fb)) := dt_cmp op_lt od_lt ha hb (nomark _)
theorem dt_le (ha : DK X w a fa) (hb : DK X w b fb) : DT X w (.Compare a [.LtE] [b] pos) (sB (sBin opLe fa fb)) := dt_cmp op_le od_le ha hb (nomark _)
theorem dt_gt (ha : DK X w a fa) (hb : DK X w b fb) : DT X w (.Compare a [.Gt] [b] pos) (sB (sBin opGt fa fb)) := dt_cmp op_gt od_gt ha hb (nomark _)
theorem dt_ge (ha : DK X w a fa) (hb : DK X w b fb) : DT X w (.Compare a [.GtE] [b] pos) (sB (sBin opGe fa fb)) := dt_cmp op_ge od_ge ha hb (nomark _)
theorem dt_eq (hu : X.A.units + 64 < cLine) (ha : DK X w a fa) (hb : DK X w b fb) : DT X w (.Compare a [.Eq] [b] pos) (sB (sBin opEq fa fb)) := dt_cmp (op_eqD hu) (od_eq _) ha hb (nomark _)
theorem dt_ne (hu : X.A.units + 64 < cLine) (ha : DK X w a fa) (hb : DK X w b fb) : DT X w (.Compare a [.NotEq] [b] pos) (sB (sBin opNe fa fb)) := dt_cmp (op_neD hu) (od_ne _) ha hb (nomark _)
theorem dt_in (ha : DK X w a fa) (hb : DK X w b fb) (hm : behindInMarks .In b = false := by rfl) : DT X w (.Compare a [.In] [b] pos) (sB (sBin opIn fa fb)) := dt_cmp op_inA (od_in _) ha hb hm
theorem dt_nin (ha : DK X w a fa) (hb : DK X w b fb) (hm : behindInMarks .NotIn b = false := by rfl) : DT X w (.Compare a [.NotIn] [b] pos) (sB (sBin opNin fa fb)) := dt_cmp op_ninA (od_nin _) ha hb hm
theorem dt_is (ha : DK X w a fa) (hb : DK X w b fb) : DT X w (.Compare a [.Is] [b] pos) (sB (sBin opIs fa fb)) := dt_cmp op_isN od_is ha hb (nomark _)
theorem dt_isn (ha : DK X w a fa) (hb : DK X w b fb) : DT X w (.Compare a [.IsNot] [b] pos) (sB (sBin opIsn fa fb)) := dt_cmp op_notN od_isn ha hb (nomark _)
theorem de_lele (ha : DK X w a fa) (hb : DK X w b fb) (hc : DK X w c fc) (hm : lastMarks [.LtE, .LtE] [b, c] = false := by with_unfolding_all rfl) : DE X w (.Compare a [.LtE, .LtE] [b, c] pos) (sChain opLe opLe fa fb fc) := de_chain op_le op_le cm_le od_le ha hb hc hm
theorem de_lelt (ha : DK X w a fa) (hb : DK X w b fb) (hc : DK X w c fc) (hm : lastMarks [.LtE, .Lt] [b, c] = false := by with_unfolding_all rfl) : DE X w (.Compare a [.LtE, .Lt] [b, c] pos) (sChain opLe opLt fa fb fc) := de_chain op_le op_lt cm_le od_lt ha hb hc hm
theorem dt_lele (ha : DK X w a fa) (hb : DK X w b fb) (hc : DK X w c fc) (hm : lastMarks [.LtE, .LtE] [b, c] = false := by with_unfolding_all rfl) : DT X w (.Compare a [.LtE, .LtE] [b, c] pos) (sB (sChain opLe opLe fa fb fc)) := dt_chain op_le op_le cm_le od_le ha hb hc hm
theorem dt_lelt (ha : DK X w a fa) (hb : DK X w b fb) (hc : DK X w c fc) (hm : lastMarks [.LtE, .Lt] [b, c] = false := by with_unfolding_all rfl) : DT X w (.Compare a [.LtE, .Lt] [b, c] pos) (sB (sChain opLe opLt fa fb fc)) := dt_chain op_le op_lt cm_le od_lt ha hb hc hm
def sNeg (f : SE) : SE := fun r m => bindR (f r m) fun d m => match d with
  | .int i => .ok (.int (-i)) m
  | _ => .bad
theorem de_neg (ha : DE X w a fa) : DE X w (.UnaryOp .USub a pos) (sNeg fa) :=
  PE.imp (pe_un un_neg ha) fun s H Q ⟨x, r, m, R, q⟩ => by
    refine rd_bind R q fun d m1 v y H1 R1 p1 st1 q1 => ?_
    cases d with
    | int i =>
      cases p1
      exact ⟨i, rfl, Fin.here R1 q1 (.int _)⟩
    | _ => exact q1.elim
end
end Dl
set_option autoImplicit true
/-! The data layer: arguments, displays, subscripts, slices, built-in calls. -/
namespace Dl
open PySem PySem.Spec PyProof.Rows L2 TL

def aNil : SL := fun _ m => .ok [] m
def aCons (f : SE) (g : SL) : SL := fun r m => bindR (f r m) fun d m => bindR (g r m) fun ds m => .ok (d :: ds) m
section
variable {X : Cx} {w : Wi} {a b c e : Expr} {es rest : List Expr} {pos p : Pos} {fa fb fc f : SE} {g : SL}
theorem da_nil : DA X w [] aNil := PA.imp pa_nil fun s H Q ⟨x, r, m, R, q⟩ => Fin.here R q .nil
theorem da_cons (ha : DE X w e f) (hr : DA X w es g) (hs : starEach (e :: es) X.env = (false, eval e X.env) :: starEach es X.env := by rfl) : DA X w (e :: es) (aCons f g) :=
  PA.imp (pa_cons ha hr hs) fun s H Q ⟨x, r, m, R, q⟩ => by
    refine rd_bind R q fun d m1 v y H1 R1 p1 st1 q1 => ?_
    refine rd_bind R1 q1 fun ds m2 vs z H2 R2 p2 st2 q2 => ?_
    exact Fin.here R2 q2 (.cons (p1.mono st2.st.F st2.st.io) p2)
theorem dk_nil : DAk X w [] aNil := da_nil.k
theorem dk_cons (ha : DK X w e f) (hr : DAk X w es g) (hs : starEach (e :: es) X.env = (false, eval e X.env) :: starEach es X.env := by rfl) : DAk X w (e :: es) (aCons f g) :=
  PA.imp (pa_cons ha hr hs) fun s H Q ⟨x, r, m, R, q⟩ => by
    refine rd_bind R q fun d m1 v y H1 R1 p1 st1 q1 => ?_
    refine rd_bind R1 q1 fun ds m2 vs z H2 R2 p2 st2 q2 => ?_
    exact Fin.here R2 q2 (.cons (p1.stay R1 st2) p2)

/-! ### displays -/
def sTup (g : SL) : SE := fun r m => bindR (g r m) fun ds m => if ds.length ≤ LIM then .ok (.tup ds) m else .bad
def sLst (g : SL) : SE := fun r m => bindR (g r m) fun ds m => if ds.length ≤ LIM then .ok (.lst ds) m else .bad
theorem de_tup {k : Nat} (h : DA X w es g) : DE X w (.Tuple es k pos) (sTup g) :=
  PE.imp (pe_tup h) fun s H Q ⟨x, r, m, R, q⟩ => by
    refine rd_bind R q fun ds m1 vs y H1 R1 p1 st1 q1 => ?_
    obtain ⟨hz, q1⟩ := Fin.ite q1
    have hl : ds.length = vs.length := p1.length
    exact ⟨by rw [← hl, ← lim_eq]; exact hz, Fin.tuple R1 q1 p1⟩
theorem de_lst (h : DA X w es g) : DE X w (.List es pos) (sLst g) :=
  PE.imp (pe_lst h) fun s H Q ⟨x, r, m, R, q⟩ => by
    refine rd_bind R q fun ds m1 vs y H1 R1 p1 st1 q1 => ?_
    obtain ⟨hz, q1⟩ := Fin.ite q1
    have hl : ds.length = vs.length := p1.length
    exact ⟨by rw [← hl, ← lim_eq]; exact hz, Fin.list R1 q1 p1⟩

/-! ### subscripts -/
def ixD : D → D → Option D
  | .lst l, .int i => atI l i
  | .tup l, .int i => atI l i
  | .str z, .int i => if z.length ≤ LIM then (atI z i).map fun c => .str [c] else none
  | _, _ => none
def opIx (a b : D) (m : Sto) : R D := ofO (ixD a b) m
theorem atI_reps {F : Hp} {io : List Addr} {l : List D} {vs : List V} (h : Reps F io l vs) {i : Int} {d : D} (e : atI l i = some d) : ∃ v, atI vs i = some v ∧ Rep F io d v := by
  unfold atI at e ⊢
  rw [← h.length]
  cases k : ixN l.length i with
  | none =>
    rw [k] at e
    cases e
  | some j =>
    rw [k] at e
    exact h.get e
theorem od_ix (K : PySem.W.Frag) : OpD pw w opIx (rIx K) := by
  intro x e m s H Q da db va vb R pa pb h
  cases db with
  | int i =>
    have eb := pb.int
    subst eb
    cases da with
    | lst l =>
      obtain ⟨p, vs, rfl, hp, q⟩ := pa.lst R
      have h : Fin PV w x e s H Q (ofO (atI l i) m) := h
      cases k : atI l i with
      | none =>
        rw [k] at h
        exact h.elim
      | some d =>
        rw [k] at h
        obtain ⟨v, e1, r1⟩ := atI_reps q k
        exact .inl ⟨p, vs, i, v, rfl, rfl, SqL.of hp, e1, Fin.here R h r1⟩
    | tup l =>
      obtain ⟨p, vs, rfl, _, hp, q⟩ := pa.tup R
      have h : Fin PV w x e s H Q (ofO (atI l i) m) := h
      cases k : atI l i with
      | none =>
        rw [k] at h
        exact h.elim
      | some d =>
        rw [k] at h
        obtain ⟨v, e1, r1⟩ := atI_reps q k
        exact .inr (.inl ⟨p, vs, i, v, rfl, rfl, SqT.of hp, e1, Fin.here R h r1⟩)
    | str z =>
      have ea := pa.str
      subst ea
      have h : Fin PV w x e s H Q (ofO (if z.length ≤ LIM then (atI z i).map fun c => .str [c] else none) m) := h
      by_cases hz : z.length ≤ LIM
      · rw [if_pos hz] at h
        cases k : atI z i with
        | none =>
          rw [k] at h
          exact h.elim
        | some c =>
          rw [k] at h
          refine .inr (.inr ⟨⟨z.toArray⟩, i, c, rfl, rfl, by rw [str_len, ← lim_eq]; exact hz, k, Fin.here R h (.str [c])⟩)
      · rw [if_neg hz] at h
        exact h.elim
    | _ => exact h.elim
  | _ => cases da <;> exact h.elim
theorem de_ix (ha : DK X w a fa) (hb : DK X w b fb) (hs : PlainIx b := by exact fun _ _ => rfl) : DE X w (.Subscript a b pos) (sBin opIx fa fb) :=
  PE.imp (pe_ix ix_seq ha hb hs) fun s H Q q => rd_bin (od_ix _) s H Q q

/-! ### slices -/
abbrev SO := Sem1 (Option Int)
abbrev DO (X : Cx) (w : Wi) (e : Option Expr) (t : SO) : Prop := PO X e (rd (pw := pwOf X) (fun _ _ a b => a = b) w t)
def oNone : SO := fun _ m => .ok none m
def oSome (f : SE) : SO := fun r m => bindR (f r m) fun d m => match d with
  | .int i => .ok (some i) m
  | _ => .bad
theorem do_none : DO X w none oNone := ⟨fun pins s σ H Q I ⟨x, r, m, R, q⟩ => po_none.run pins s σ H Q I (Fin.here R q rfl)⟩
theorem do_some (h : DK X w e f) : DO X w (some e) (oSome f) := ⟨fun pins s σ H Q I ⟨x, r, m, R, q⟩ => (po_some h).run pins s σ H Q I (by
  refine rd_bind R q fun d m1 v y H1 R1 p1 st1 q1 => ?_
  cases d with
  | int i => exact ⟨i, p1.int, Fin.here R1 q1 rfl⟩
  | _ => exact q1.elim)⟩
def cutL {α : Type} (l : List α) (lo hi : Option Int) : List α := (l.drop (HT.sIx l.length 0 lo)).take (HT.sIx l.length l.length hi - HT.sIx l.length 0 lo)
def opSl (d : D) (lo hi : Option Int) (m : Sto) : R D := match d with
  | .lst l => .ok (.lst (cutL l lo hi)) m
  | .tup l => .ok (.tup (cutL l lo hi)) m
  | .str z => if z.length ≤ LIM then .ok (.str (cutL z lo hi)) m else .bad
  | _ => .bad
def sSl (f : SE) (lo hi : SO) : SE := fun r m => bindR (f r m) fun d m => bindR (lo r m) fun l m => bindR (hi r m) fun u m => opSl d l u m
def rSlAny (K : PySem.W.Frag) : V → Option Int → Option Int → Hp → VK → Prop := fun x lo hi H Q => rSlL K x lo hi H Q ∨ rSlA K x lo hi H Q ∨ rSlS x lo hi H Q
theorem sl_any : SlR X (rSlAny X.K) := SlR.or sl_list (SlR.or sl_tupA sl_str)
theorem cut_reps {F : Hp} {io : List Addr} {l : List D} {vs : List V} (h : Reps F io l vs) (lo hi : Option Int) : Reps F io (cutL l lo hi) (cutV vs lo hi) := by
  unfold cutL cutV
  rw [← h.length]
  exact (h.drop _).take _
theorem cut_whole {α : Type} {l : List α} {lo hi : Option Int} (h1 : HT.sIx l.length 0 lo = 0) (h2 : HT.sIx l.length l.length hi = l.length) : cutL l lo hi = l := by
  unfold cutL
  rw [h1, h2]
  simp
theorem de_sl {lo hi : Option Expr} {tl th : SO} {p2 : Pos} (ha : DK X w a fa) (hl : DO X w lo tl) (hh : DO X w hi th) : DE X w (.Subscript a (.Slice lo hi none p2) pos) (sSl fa tl th) :=
  PE.imp (pe_slice sl_any ha hl hh) fun s H Q ⟨x, r, m, R, q⟩ => by
    refine rd_bind R q fun d m1 v y H1 R1 p1 st1 q1 => ?_
    refine rd_bind R1 q1 fun l m2 l' z H2 R2 p2 st2 q2 => ?_
    refine rd_bind R2 q2 fun u m3 u' t H3 R3 p3 st3 q3 => ?_
    cases p2
    cases p3
    have pk := (p1.stay R1 st2).stay R2 st3
    cases d with
    | lst ds =>
      obtain ⟨a, vs, rfl, ha, q⟩ := pk.lst R3
      exact .inl ⟨a, vs, rfl, SqL.of ha, Fin.list R3 q3 (cut_reps q _ _)⟩
    | tup ds =>
      obtain ⟨a, vs, rfl, haF, ha, q⟩ := pk.tup R3
      refine .inr (.inl ⟨a, vs, rfl, SqT.of ha, fun hw => ?_, fun hw => Fin.tuple R3 q3 (cut_reps q _ _)⟩)
      rw [← q.length] at hw
      have q3 : Fin PV w t r s H3 Q (.ok (.tup (cutL ds l u)) m3) := q3
      rw [cut_whole hw.1 hw.2] at q3
      exact Fin.here R3 q3 (.tup haF q)
    | str ds =>
      have e := pk.str
      subst e
      obtain ⟨hz, q3⟩ := Fin.ite q3
      refine .inr (.inr ⟨_, rfl, by rw [str_len, ← lim_eq]; exact hz, ?_⟩)
      have e2 : cutS ⟨ds.toArray⟩ l u = ⟨(cutL ds l u).toArray⟩ := by
        unfold cutS cutL
        simp [Str.length]
      rw [e2]
      exact Fin.here R3 q3 (.str _)
    | _ => exact q3.elim

/-! ### calls of built-in names -/
/-- the answer by the arguments that are looked at -/
def CaD (pw : PWd) (w : Wi) (f : List D → Sto → R D) (r : List V → Hp → VK → Prop) : Prop := ∀ (x : Sx pw) (e : Env) (m : Sto) (s : L2.St) (H : Hp) (Q : VK) (ds : List D) (vs : List V), Rel x e m s H → Pks x H ds vs → Fin PV w x e s H Q (f ds m) → r vs H Q
def sCall (f : List D → Sto → R D) (g : SL) : SE := fun r m => bindR (g r m) fun ds m => f ds m
theorem rd_call {r : List V → Hp → VK → Prop} {fd : List D → Sto → R D} (h : CaD pw w fd r) (s : L2.St) (H : Hp) (Q : VK) (q : rd (PV (pw := pw)) w (sCall fd g) s H Q) : tCB r (rd (pw := pw) (fun x H ds vs => Pks x H ds vs) w g) s H Q := by
  obtain ⟨x, e, m, R, q⟩ := q
  refine rd_bind R q fun ds m1 vs y H1 R1 p1 st1 q1 => ?_
  exact h y e m1 s H1 Q ds vs R1 p1 q1
theorem de_callB {x : Str} {id : String} {r : List V → Hp → VK → Prop} {fd : List D → Sto → R D} (hc : CallR X (.builtin id) r) (h : CaD (pwOf X) w fd r) (hg : Gl X x) (hm : X.mg x = none) (hv : bootBuiltins x = some (.builtin id)) (ha : DAk X w (e :: es) g) (hn : x ≠ "__name__" := by decide) (hdb : (x == ("__debug__" : Str)) = false := by decide)
    (he : starEach (e :: es) X.env = (false, eval e X.env) :: starEach es X.env := by rfl) (hpl : (backTo pos (starEach es X.env)).any (·.1) = false := by rfl) : DE X w (.Call (.Name x p) (e :: es) [] pos) (sCall fd g) :=
  PE.imp (pe_callB hc hg hm hv ha hn hdb he hpl) fun s H Q q => rd_call h s H Q q
theorem de_callT {x : Str} {T : String} {r : List V → Hp → VK → Prop} {fd : List D → Sto → R D} (hc : CallR X (.type T) r) (h : CaD (pwOf X) w fd r) (hg : Gl X x) (hm : X.mg x = none) (hv : bootBuiltins x = some (.type T)) (ha : DAk X w (e :: es) g) (hn : x ≠ "__name__" := by decide) (hdb : (x == ("__debug__" : Str)) = false := by decide)
    (he : starEach (e :: es) X.env = (false, eval e X.env) :: starEach es X.env := by rfl) (hpl : (backTo pos (starEach es X.env)).any (·.1) = false := by rfl) : DE X w (.Call (.Name x p) (e :: es) [] pos) (sCall fd g) :=
  PE.imp (pe_callTy hc hg hm hv ha hn hdb he hpl) fun s H Q q => rd_call h s H Q q

/-- an answer that asks ints, makes nothing -/
theorem Pks.one {x : Sx pw} {H : Hp} {d : D} {vs : List V} (h : Pks x H [d] vs) : ∃ v, vs = [v] ∧ Pk x H d v := by
  cases h with
  | cons a t => cases t; exact ⟨_, rfl, a⟩
theorem Pks.two {x : Sx pw} {H : Hp} {d d' : D} {vs : List V} (h : Pks x H [d, d'] vs) : ∃ v v', vs = [v, v'] ∧ Pk x H d v ∧ Pk x H d' v' := by
  cases h with
  | cons a t =>
    cases t with
    | cons b t => cases t; exact ⟨_, _, rfl, a, b⟩
def fLen : List D → Sto → R D
  | [.str z], m => if z.length ≤ LIM then .ok (.int z.length) m else .bad
  | [.lst l], m => .ok (.int l.length) m
  | [.tup l], m => .ok (.int l.length) m
  | _, _ => .bad
theorem ca_len (K : PySem.W.Frag) : CaD pw w fLen (fun xs H Q => ∃ x n, xs = [x] ∧ LenV K x H n ∧ Q (.int n) H) := by
  intro x e m s H Q ds vs R ps h
  unfold fLen at h
  split at h
  · rename_i z
    obtain ⟨v, rfl, pa⟩ := ps.one
    have ea := pa.str
    subst ea
    obtain ⟨hz, h⟩ := Fin.ite h
    exact ⟨_, z.length, rfl, ⟨by rw [str_len, ← lim_eq]; exact hz, (str_len z).symm⟩, Fin.here R h (.int _)⟩
  · rename_i l
    obtain ⟨v, rfl, pa⟩ := ps.one
    obtain ⟨p, vs, rfl, hp, q⟩ := pa.lst R
    exact ⟨_, l.length, rfl, .inl ⟨vs, SqL.of hp, q.length⟩, Fin.here R h (.int _)⟩
  · rename_i l
    obtain ⟨v, rfl, pa⟩ := ps.one
    obtain ⟨p, vs, rfl, _, hp, q⟩ := pa.tup R
    exact ⟨_, l.length, rfl, .inr ⟨vs, SqT.of hp, q.length⟩, Fin.here R h (.int _)⟩
  · exact h.elim
theorem de_len (hg : Gl X "len") (hm : X.mg "len" = none) (ha : DK X w a fa) (hs : starEach [a] X.env = [(false, eval a X.env)] := by rfl) (hpl : (backTo pos (starEach [] X.env)).any (·.1) = false := by rfl) : DE X w (.Call (.Name "len" p) [a] [] pos) (sCall fLen (aCons fa aNil)) :=
  de_callB call_len (ca_len _) hg hm PySem.boot_len (dk_cons ha dk_nil hs) (by decide) (by decide) hs hpl
def fMax : List D → Sto → R D
  | [.int i, .int j], m => .ok (.int (max i j)) m
  | _, _ => .bad
def fMin : List D → Sto → R D
  | [.int i, .int j], m => .ok (.int (min i j)) m
  | _, _ => .bad
theorem ca_max : CaD pw w fMax (fun xs H Q => ∃ i j, xs = [.int i, .int j] ∧ Q (.int (if j > i then j else i)) H) := by
  intro x e m s H Q ds vs R ps h
  unfold fMax at h
  split at h
  · rename_i i j
    obtain ⟨v, v', rfl, pa, pb⟩ := ps.two
    have ea := pa.int; have eb := pb.int
    subst ea eb
    refine ⟨i, j, rfl, ?_⟩
    have e : (if j > i then j else i) = max i j := by
      by_cases hj : j > i
      · rw [if_pos hj]; omega
      · rw [if_neg hj]; omega
    rw [e]
    exact Fin.here R h (.int _)
  · exact h.elim
theorem ca_min : CaD pw w fMin (fun xs H Q => ∃ i j, xs = [.int i, .int j] ∧ Q (.int (if j < i then j else i)) H) := by
  intro x e m s H Q ds vs R ps h
  unfold fMin at h
  split at h
  · rename_i i j
    obtain ⟨v, v', rfl, pa, pb⟩ := ps.two
    have ea := pa.int; have eb := pb.int
    subst ea eb
    refine ⟨i, j, rfl, ?_⟩
    have e : (if j < i then j else i) = min i j := by
      by_cases hj : j < i
      · rw [if_pos hj]; omega
      · rw [if_neg hj]; omega
    rw [e]
    exact Fin.here R h (.int _)
  · exact h.elim
theorem de_max (hc : X.calm = true) (hg : Gl X "max") (hm : X.mg "max" = none) (ha : DK X w a fa) (hb : DK X w b fb) (hs : starEach [a, b] X.env = (false, eval a X.env) :: starEach [b] X.env := by rfl) (hs' : starEach [b] X.env = [(false, eval b X.env)] := by rfl) (hpl : (backTo pos (starEach [b] X.env)).any (·.1) = false := by rfl) :
    DE X w (.Call (.Name "max" p) [a, b] [] pos) (sCall fMax (aCons fa (aCons fb aNil))) :=
  de_callB (call_max2 hc) ca_max hg hm PyProof.Rows.boot_max (dk_cons ha (dk_cons hb dk_nil hs') hs) (by decide) (by decide) hs hpl
theorem de_min (hc : X.calm = true) (hg : Gl X "min") (hm : X.mg "min" = none) (ha : DK X w a fa) (hb : DK X w b fb) (hs : starEach [a, b] X.env = (false, eval a X.env) :: starEach [b] X.env := by rfl) (hs' : starEach [b] X.env = [(false, eval b X.env)] := by rfl) (hpl : (backTo pos (starEach [b] X.env)).any (·.1) = false := by rfl) :
    DE X w (.Call (.Name "min" p) [a, b] [] pos) (sCall fMin (aCons fa (aCons fb aNil))) :=
  de_callB (call_min2 hc) ca_min hg hm PyProof.Rows.boot_min (dk_cons ha (dk_cons hb dk_nil hs') hs) (by decide) (by decide) hs hpl
/-- int(number), int(flag), int(text) -/
def fInt : List D → Sto → R D
  | [.int i], m => .ok (.int i) m
  | [.bl b], m => .ok (.int (if b then 1 else 0)) m
  | [.str z], m => if z.length ≤ 640 then ofO ((PySem.intText? ⟨z.toArray⟩).map D.int) m else .bad
  | _, _ => .bad
def rIntA : List V → Hp → VK → Prop := fun xs H Q => ((∃ i, xs = [.int i] ∧ Q (.int i) H) ∨ ∃ k, xs = [.bl k] ∧ Q (.int (if k then 1 else 0)) H) ∨ ∃ a n, xs = [.str a] ∧ PySem.intText? a = some n ∧ a.length ≤ 640 ∧ Q (.int n) H
theorem ca_int : CaD pw w fInt rIntA := by
  intro x e m s H Q ds vs R ps h
  unfold fInt at h
  split at h
  · obtain ⟨v, rfl, pa⟩ := ps.one
    have ea := pa.int
    subst ea
    exact .inl (.inl ⟨_, rfl, Fin.here R h (.int _)⟩)
  · obtain ⟨v, rfl, pa⟩ := ps.one
    have ea := pa.bl
    subst ea
    exact .inl (.inr ⟨_, rfl, Fin.here R h (.int _)⟩)
  · rename_i z
    obtain ⟨v, rfl, pa⟩ := ps.one
    have ea := pa.str
    subst ea
    obtain ⟨hz, h⟩ := Fin.ite h
    cases k : PySem.intText? ⟨z.toArray⟩ with
    | none =>
      rw [k] at h
      exact h.elim
    | some n =>
      rw [k] at h
      exact .inr ⟨_, n, rfl, k, by rw [str_len]; exact hz, Fin.here R h (.int _)⟩
  · exact h.elim
theorem de_toInt (hg : Gl X "int") (hm : X.mg "int" = none) (ha : DK X w a fa) (hs : starEach [a] X.env = [(false, eval a X.env)] := by rfl) (hpl : (backTo pos (starEach [] X.env)).any (·.1) = false := by rfl) : DE X w (.Call (.Name "int" p) [a] [] pos) (sCall fInt (aCons fa aNil)) :=
  de_callT (CallR.or call_int1 call_int_str) ca_int hg hm PyProof.Rows.boot_int (dk_cons ha dk_nil hs) (by decide) (by decide) hs hpl
/-- str(number), str(text) is told apart -/
def fStr : List D → Sto → R D
  | [.int i], m => if i.natAbs < 10 ^ 500 then .ok (.str ((toString i : Str).cps.toList)) m else .bad
  | _, _ => .bad
/-- list(..), tuple(..) of a list or tuple -/
def fList : List D → Sto → R D
  | [.lst l], m => .ok (.lst l) m
  | [.tup l], m => .ok (.lst l) m
  | _, _ => .bad
def fTuple : List D → Sto → R D
  | [.lst l], m => .ok (.tup l) m
  | [.tup l], m => .ok (.tup l) m
  | _, _ => .bad
theorem ca_list (K : PySem.W.Frag) : CaD pw w fList (fun xs H Q => ∃ p ys, xs = [.ref p] ∧ (SqL K H p ys ∨ SqT K H p ys) ∧ ∀ l, H l = none → Q (.ref l) (upd H l (.lst ys))) := by
  intro x e m s H Q ds vs R ps h
  unfold fList at h
  split at h
  · obtain ⟨v, rfl, pa⟩ := ps.one
    obtain ⟨p, vs, rfl, hp, q⟩ := pa.lst R
    exact ⟨p, vs, rfl, .inl (SqL.of hp), Fin.list R h q⟩
  · obtain ⟨v, rfl, pa⟩ := ps.one
    obtain ⟨p, vs, rfl, _, hp, q⟩ := pa.tup R
    exact ⟨p, vs, rfl, .inr (SqT.of hp), Fin.list R h q⟩
  · exact h.elim
theorem ca_tuple (K : PySem.W.Frag) : CaD pw w fTuple (fun xs H Q => ∃ p ys, xs = [.ref p] ∧ ((SqL K H p ys ∧ ∀ l, H l = none → Q (.ref l) (upd H l (.tup ys))) ∨ (SqT K H p ys ∧ Q (.ref p) H))) := by
  intro x e m s H Q ds vs R ps h
  unfold fTuple at h
  split at h
  · obtain ⟨v, rfl, pa⟩ := ps.one
    obtain ⟨p, vs, rfl, hp, q⟩ := pa.lst R
    exact ⟨p, vs, rfl, .inl ⟨SqL.of hp, Fin.tuple R h q⟩⟩
  · obtain ⟨v, rfl, pa⟩ := ps.one
    obtain ⟨p, vs, rfl, hF, hp, q⟩ := pa.tup R
    exact ⟨p, vs, rfl, .inr ⟨SqT.of hp, Fin.here R h (.tup hF q)⟩⟩
  · exact h.elim
theorem de_list (hg : Gl X "list") (hm : X.mg "list" = none) (ha : DK X w a fa) (hs : starEach [a] X.env = [(false, eval a X.env)] := by rfl) (hpl : (backTo pos (starEach [] X.env)).any (·.1) = false := by rfl) : DE X w (.Call (.Name "list" p) [a] [] pos) (sCall fList (aCons fa aNil)) :=
  de_callT call_list_of (ca_list _) hg hm PyProof.Rows.boot_list (dk_cons ha dk_nil hs) (by decide) (by decide) hs hpl
theorem de_tuple (hg : Gl X "tuple") (hm : X.mg "tuple" = none) (ha : DK X w a fa) (hs : starEach [a] X.env = [(false, eval a X.env)] := by rfl) (hpl : (backTo pos (starEach [] X.env)).any (·.1) = false := by rfl) : DE X w (.Call (.Name "tuple" p) [a] [] pos) (sCall fTuple (aCons fa aNil)) :=
  de_callT call_tuple_of (ca_tuple _) hg hm PyProof.Rows.boot_tuple (dk_cons ha dk_nil hs) (by decide) (by decide) hs hpl
/-- sum of a list of ints; all of a list of truths -/
def intsOf : List D → Option (List Int)
  | [] => some []
  | .int i :: l => (intsOf l).map (i :: ·)
  | _ => none
def blsOf : List D → Option (List Bool)
  | [] => some []
  | .bl i :: l => (blsOf l).map (i :: ·)
  | _ => none
theorem ints_reps {F : Hp} {io : List Addr} : ∀ {l : List D} {vs : List V} {ns : List Int}, Reps F io l vs → intsOf l = some ns → vs = ns.map V.int
  | [], _, _, .nil, e => by
    cases e
    rfl
  | d :: l, _, ns, .cons r t, e => by
    cases d with
    | int i =>
      cases r
      cases k : intsOf l with
      | none =>
        have e : (intsOf l).map (i :: ·) = some ns := e
        rw [k] at e
        cases e
      | some ms =>
        have e : (intsOf l).map (i :: ·) = some ns := e
        rw [k] at e
        cases e
        rw [ints_reps t k]
        rfl
    | _ => cases e
theorem bls_reps {F : Hp} {io : List Addr} : ∀ {l : List D} {vs : List V} {ns : List Bool}, Reps F io l vs → blsOf l = some ns → vs = ns.map V.bl
  | [], _, _, .nil, e => by
    cases e
    rfl
  | d :: l, _, ns, .cons r t, e => by
    cases d with
    | bl i =>
      cases r
      cases k : blsOf l with
      | none =>
        have e : (blsOf l).map (i :: ·) = some ns := e
        rw [k] at e
        cases e
      | some ms =>
        have e : (blsOf l).map (i :: ·) = some ns := e
        rw [k] at e
        cases e
        rw [bls_reps t k]
        rfl
    | _ => cases e
@[simp] theorem intsOf_map (l : List Int) : intsOf (l.map D.int) = some l := by
  induction l with
  | nil => rfl
  | cons i l ih =>
    show (intsOf (l.map D.int)).map (i :: ·) = _
    rw [ih]
    rfl
@[simp] theorem blsOf_map (l : List Bool) : blsOf (l.map D.bl) = some l := by
  induction l with
  | nil => rfl
  | cons i l ih =>
    show (blsOf (l.map D.bl)).map (i :: ·) = _
    rw [ih]
    rfl
def fSum : List D → Sto → R D
  | [.lst l], m => ofO ((intsOf l).map fun ns => D.int ns.sum) m
  | _, _ => .bad
def fAll : List D → Sto → R D
  | [.lst l], m => ofO ((blsOf l).map fun ns => D.bl (ns.all id)) m
  | _, _ => .bad
theorem ca_sum (K : PySem.W.Frag) : CaD pw w fSum (rSum K) := by
  intro x e m s H Q ds vs R ps h
  unfold fSum at h
  split at h
  · rename_i l
    obtain ⟨v, rfl, pa⟩ := ps.one
    obtain ⟨p, vs, rfl, hp, q⟩ := pa.lst R
    cases k : intsOf l with
    | none =>
      rw [k] at h
      exact h.elim
    | some ns =>
      rw [k] at h
      have e := ints_reps q k
      subst e
      exact ⟨p, ns, rfl, SqL.of hp, Fin.here R h (.int _)⟩
  · exact h.elim
theorem ca_all (K : PySem.W.Frag) : CaD pw w fAll (rAll K) := by
  intro x e m s H Q ds vs R ps h
  unfold fAll at h
  split at h
  · rename_i l
    obtain ⟨v, rfl, pa⟩ := ps.one
    obtain ⟨p, vs, rfl, hp, q⟩ := pa.lst R
    cases k : blsOf l with
    | none =>
      rw [k] at h
      exact h.elim
    | some ns =>
      rw [k] at h
      have e := bls_reps q k
      subst e
      exact ⟨p, ns, rfl, SqL.of hp, Fin.here R h (.bl _)⟩
  · exact h.elim
theorem de_sum (hc : X.calm = true) (hg : Gl X "sum") (hm : X.mg "sum" = none) (ha : DK X w a fa) (hs : starEach [a] X.env = [(false, eval a X.env)] := by rfl) (hpl : (backTo pos (starEach [] X.env)).any (·.1) = false := by rfl) : DE X w (.Call (.Name "sum" p) [a] [] pos) (sCall fSum (aCons fa aNil)) :=
  de_callB (cr_sum hc) (ca_sum _) hg hm PyProof.Rows.boot_sum (dk_cons ha dk_nil hs) (by decide) (by decide) hs hpl
theorem de_all (hc : X.calm = true) (hg : Gl X "all") (hm : X.mg "all" = none) (ha : DK X w a fa) (hs : starEach [a] X.env = [(false, eval a X.env)] := by rfl) (hpl : (backTo pos (starEach [] X.env)).any (·.1) = false := by rfl) : DE X w (.Call (.Name "all" p) [a] [] pos) (sCall fAll (aCons fa aNil)) :=
  de_callB (cr_all hc) (ca_all _) hg hm PyProof.Rows.boot_all (dk_cons ha dk_nil hs) (by decide) (by decide) hs hpl
end
end Dl
set_option autoImplicit true
/-! The data layer: statements. -/
namespace Dl
open PySem PySem.Spec PyProof.Rows L2 TL

/-- how a statement ends -/
inductive Fl where
  | nx (r : Env) (m : Sto)
  | rt (d : D) (m : Sto)
  | bk (r : Env) (m : Sto)
  | ct (r : Env) (m : Sto)
  | exc (c : Nat) (v : D) (r : Env) (m : Sto)
  | bad
abbrev SS := Env → Sto → Fl
def bindS {α : Type} (e : Env) (r : R α) (f : α → Sto → Fl) : Fl := match r with
  | .ok a m => f a m
  | .exc c v m => .exc c v e m
  | .bad => .bad
@[simp] theorem bindS_ok {α : Type} (e : Env) (a : α) (m : Sto) (f : α → Sto → Fl) : bindS e (.ok a m) f = f a m := rfl
@[simp] theorem bindS_exc {α : Type} (e : Env) (c : Nat) (v : D) (m : Sto) (f : α → Sto → Fl) : bindS e (.exc c v m) f = .exc c v e m := rfl
@[simp] theorem bindS_bad {α : Type} (e : Env) (f : α → Sto → Fl) : bindS e (.bad : R α) f = .bad := rfl
def FinS (w : Wi) (x : Sx pw) (H : Hp) (E : Ends) : Fl → Prop
  | .nx r m => ∀ s y H', Rel y r m s H' → StS x H y H' → E.nx s H'
  | .rt d m => ∀ v y H', Rel y [] m [] H' → Rep y.F y.io d v → StS x H y H' → E.rt v H'
  | .bk r m => ∀ s y H', Rel y r m s H' → StS x H y H' → E.bk s H'
  | .ct r m => ∀ s y H', Rel y r m s H' → StS x H y H' → E.ct s H'
  | .exc c v r m => ∀ cls d s y H', Rel y r m s H' → ExAt w c v cls d y H' → StS x H y H' → w.W cls d s H'
  | .bad => False
def rdS (pw : PWd) (w : Wi) (f : SS) : TS := fun E s H => ∃ (x : Sx pw) (r : Env) (m : Sto), Rel x r m s H ∧ FinS w x H E (f r m)
abbrev DS (X : Cx) (w : Wi) (st : Stmt) (f : SS) : Prop := PS X st (rdS (pwOf X) w f)
abbrev DSs (X : Cx) (w : Wi) (st : List Stmt) (f : SS) : Prop := PSs X st (rdS (pwOf X) w f)
section
variable {x y : Sx pw} {r : Env} {m : Sto} {s : L2.St} {H H' : Hp} {w : Wi} {E : Ends}
theorem FinS.shift {f : Fl} (st : StS x H y H') (h : FinS w x H E f) : FinS w y H' E f := by
  cases f with
  | nx r m => exact fun s z H2 R t => h s z H2 R (st.trans t)
  | rt d m => exact fun s z H2 R p t => h s z H2 R p (st.trans t)
  | bk r m => exact fun s z H2 R t => h s z H2 R (st.trans t)
  | ct r m => exact fun s z H2 R t => h s z H2 R (st.trans t)
  | exc c v r m => exact fun cls d s z H2 R p t => h cls d s z H2 R p (st.trans t)
  | bad => exact h
theorem FinS.ite {f : Fl} {c : Prop} [Decidable c] (h : FinS w x H E (if c then f else .bad)) : c ∧ FinS w x H E f := by
  by_cases hc : c
  · rw [if_pos hc] at h
    exact ⟨hc, h⟩
  · rw [if_neg hc] at h
    exact h.elim
/-- an expression within a statement -/
theorem rd_bindS {α β : Type} {P : PP pw α β} {f : Sem1 α} {g : α → Sto → Fl} {K : β → Hp → Prop} (R : Rel x r m s H) (h : FinS w x H E (bindS r (f r m) g))
    (k : ∀ a m' b y H', Rel y r m' s H' → P y H' a b → StE x H y H' → FinS w y H' E (g a m') → K b H') : rd P w f s H K := by
  refine ⟨x, r, m, R, ?_⟩
  cases e : f r m with
  | ok a m' =>
    rw [e] at h
    exact fun b y H' R' p st => k a m' b y H' R' p st (FinS.shift st.toS h)
  | exc c v m' =>
    rw [e] at h
    exact fun cls d y H' R' p st => h cls d s y H' R' p st.toS
  | bad =>
    rw [e] at h
    exact h
theorem FinS.here {r' : Env} {m' : Sto} (R : Rel x r' m' s H) (h : FinS w x H E (.nx r' m')) : E.nx s H := h s x H R .refl
/-- a state whose slots are left -/
theorem Rel.leave (R : Rel x r m s H) : Rel (x.w1 ([])) [] m [] H :=
  ⟨R.sub, .nil, R.sto, (List.nodup_append.mp R.nd).2.1, fun a ha => R.nF a (List.mem_append_right _ ha)⟩
theorem StS.leave (R : Rel x r m s H) : StS x H (x.w1 ([])) H := ⟨⟨.refl _, .refl _, fun _ _ h _ => h, fun _ h => h, fun b h1 h2 => absurd h1 h2, fun b h => .inl h⟩, fun b h => by cases h⟩
/-- a slot is forgotten -/
theorem Rel.forget (R : Rel x r m s H) (i : Nat) : ∃ y : Sx pw, Rel y (r.set i none) m s H ∧ StS x H y H := by
  by_cases hi : i < r.length
  · obtain ⟨A0, A', p, _, _, A2, p2, n⟩ := R.vars.at hi
    have sub : ∀ b ∈ A2, b ∈ x.A1 := fun b hb => p.mem_iff.mpr (List.mem_append_right _ (p2.mem_iff.mp hb))
    have nd1 : (A0 ++ A').Nodup := (p.nodup_iff).mp (List.nodup_append.mp R.nd).1
    refine ⟨(x.w1 (A2)), ⟨R.sub, ?_, R.sto, ?_, fun a ha => ?_⟩, ⟨⟨.refl _, .refl _, fun _ _ h _ => h, fun _ h => h, fun b h1 h2 => absurd h1 h2, fun b h => .inl h⟩, fun b h => .inl (sub b h)⟩⟩
    · have q := n (s[i]?.getD none)
      have e : s.set i (s[i]?.getD none) = s := by
        refine List.ext_getElem? fun j => ?_
        by_cases hj : j = i
        · subst hj
          have hl : j < s.length := by rw [← R.vars.length]; exact hi
          rw [List.getElem?_set_self hl, List.getElem?_eq_getElem hl]
          rfl
        · rw [List.getElem?_set_ne (Ne.symm hj)]
      rw [e] at q
      exact q
    · refine List.nodup_append.mpr ⟨(p2.nodup_iff).mpr (List.nodup_append.mp nd1).2.1, (List.nodup_append.mp R.nd).2.1, fun a ha b hb => (List.nodup_append.mp R.nd).2.2 a (sub a ha) b hb⟩
    · rcases List.mem_append.mp ha with q | q
      · exact R.nF a (List.mem_append_left _ (sub a q))
      · exact R.nF a (List.mem_append_right _ q)
  · rw [List.set_eq_of_length_le (Nat.le_of_not_lt hi)]
    exact ⟨x, R, .refl⟩
/-- a cell is put into a slot -/
theorem Rel.put {c : Cell} {v : V} {A : List Addr} (R : Rel x r m s H) (i : Nat) (hc : CellR pw x.F x.io H c v A) (hA : ∀ a ∈ A, x.F a = none ∧ a ∉ x.A1 ++ x.A2) :
    ∃ y : Sx pw, Rel y (r.set i (some c)) m (s.set i (some v)) H ∧ y.F = x.F ∧ y.io = x.io ∧ y.A2 = x.A2 ∧ ∀ b ∈ y.A1, b ∈ x.A1 ∨ b ∈ A := by
  by_cases hi : i < r.length
  · obtain ⟨A0, A', p, _, wr, _⟩ := R.vars.at hi
    obtain ⟨A2, p2, q⟩ := wr (F' := x.F) (io' := x.io) (H' := H) (.refl _) (.refl _) (fun b _ o h => h) hc
    have sub : ∀ b ∈ A', b ∈ x.A1 := fun b hb => p.mem_iff.mpr (List.mem_append_right _ hb)
    have nd1 : (A0 ++ A').Nodup := (p.nodup_iff).mp (List.nodup_append.mp R.nd).1
    have ndA : A.Nodup := by
      cases hc with
      | val _ => exact List.nodup_nil
      | lst _ _ => simp
      | dct _ _ => simp
    have mem : ∀ b ∈ A2, b ∈ A ∨ b ∈ A' := fun b hb => List.mem_append.mp (p2.mem_iff.mp hb)
    refine ⟨(x.w1 (A2)), ⟨R.sub, q, R.sto, ?_, fun a ha => ?_⟩, rfl, rfl, rfl, fun b hb => ?_⟩
    · refine List.nodup_append.mpr ⟨(p2.nodup_iff).mpr (List.nodup_append.mpr ⟨ndA, (List.nodup_append.mp nd1).2.1, fun a ha b hb e => ?_⟩), (List.nodup_append.mp R.nd).2.1, fun a ha b hb e => ?_⟩
      · subst e
        exact (hA a ha).2 (List.mem_append_left _ (sub a hb))
      · subst e
        rcases mem a ha with z | z
        · exact (hA a z).2 (List.mem_append_right _ hb)
        · exact (List.nodup_append.mp R.nd).2.2 a (sub a z) a hb rfl
    · rcases List.mem_append.mp ha with z | z
      · rcases mem a z with z | z
        · exact (hA a z).1
        · exact R.nF a (List.mem_append_left _ (sub a z))
      · exact R.nF a (List.mem_append_right _ z)
    · rcases mem b hb with z | z
      · exact .inr z
      · exact .inl (sub b z)
  · rw [List.set_eq_of_length_le (Nat.le_of_not_lt hi), List.set_eq_of_length_le (by rw [← R.vars.length]; exact Nat.le_of_not_lt hi)]
    exact ⟨x, R, rfl, rfl, rfl, fun b hb => .inl hb⟩
theorem Rel.putV {d : D} {v : V} (R : Rel x r m s H) (i : Nat) (h : Rep x.F x.io d v) : ∃ y : Sx pw, Rel y (r.set i (some (.val d))) m (s.set i (some v)) H ∧ y.F = x.F ∧ y.io = x.io ∧ y.A2 = x.A2 ∧ ∀ b ∈ y.A1, b ∈ x.A1 := by
  obtain ⟨y, R', e1, e2, e3, e4⟩ := R.put i (.val h) (fun a ha => by cases ha)
  exact ⟨y, R', e1, e2, e3, fun b hb => (e4 b hb).elim id fun z => by cases z⟩
theorem StS.same (h1 : y.F = x.F) (h2 : y.io = x.io) (h3 : y.A2 = x.A2) (h4 : ∀ b ∈ y.A1, b ∈ x.A1 ∨ H b = none) : StS x H y H := by
  refine ⟨⟨by rw [h1]; exact .refl _, by rw [h2]; exact .refl _, fun _ _ h _ => h, fun _ h => h, fun b e1 e2 => ?_, fun b h => .inl (by rw [← h3]; exact h)⟩, fun b h => ?_⟩
  · rw [h1] at e2
    exact absurd e1 e2
  · rcases h4 b h with z | z
    · exact .inl z
    · exact .inr (.inr z)
/-- a slot's own list will stand from now on -/
theorem Rel.freezeG {c : Cell} {d : D} (R : Rel x r m s H) {i : Nat} (h : r[i]? = some (some c)) (inv : ∀ v A, CellR pw x.F x.io H c v A → ∃ a o, A = [a] ∧ v = .ref a ∧ H a = some o ∧ (x.F a = none → Rep (upd x.F a o) x.io d (.ref a))) : ∃ y : Sx pw, Rel y (r.set i (some (.val d))) m s H ∧ StS x H y H := by
  have hi : i < r.length := (List.getElem?_eq_some_iff.mp h).1
  obtain ⟨A0, A', p, g, wr, _⟩ := R.vars.at hi
  obtain ⟨v, ev, hc⟩ := g _ h
  obtain ⟨a, o', rfl, rfl, ha, rp⟩ := inv _ _ hc
  have haA : a ∈ x.A1 := p.mem_iff.mpr (List.mem_append_left _ (by simp))
  have haF : x.F a = none := R.nF a (List.mem_append_left _ haA)
  have hs : Sub x.F (upd x.F a o') := fun b q e => by rw [upd_ne (ne_of_none e haF)]; exact e
  have nd1 : ([a] ++ A').Nodup := (p.nodup_iff).mp (List.nodup_append.mp R.nd).1
  have naA : ∀ b ∈ A', b ≠ a := fun b hb e => by
    subst e
    exact (List.nodup_append.mp nd1).2.2 b (by simp) b hb rfl
  obtain ⟨A2, p2, q⟩ := wr (F' := upd x.F a o') (io' := x.io) (H' := H) hs (.refl _) (fun b _ o h => h) (.val (rp haF))
  have mem : ∀ b ∈ A2, b ∈ A' := fun b hb => by simpa using p2.mem_iff.mp hb
  have sub : ∀ b ∈ A', b ∈ x.A1 := fun b hb => p.mem_iff.mpr (List.mem_append_right _ hb)
  have es : s.set i (some (.ref a)) = s := by
    refine List.ext_getElem? fun j => ?_
    by_cases hj : j = i
    · subst hj
      have hl : j < s.length := by rw [← R.vars.length]; exact hi
      rw [List.getElem?_set_self hl, ev]
    · rw [List.getElem?_set_ne (Ne.symm hj)]
  rw [es] at q
  refine ⟨(x.wF1 (upd x.F a o') (A2)), ⟨fun b o e => ?_, q, R.sto.mono hs (.refl _) (fun b _ o h => h), ?_, fun b hb => ?_⟩, ⟨⟨hs, .refl _, fun _ _ h _ => h, fun _ h => h, fun b h1 h2 => ?_, fun b h => .inl h⟩, fun b h => .inl (sub b (mem b h))⟩⟩
  · have e : upd x.F a o' b = some o := e
    by_cases hb : b = a
    · subst hb
      rw [upd_same] at e
      cases e
      exact ha
    · rw [upd_ne hb] at e
      exact R.sub _ _ e
  · refine List.nodup_append.mpr ⟨(p2.nodup_iff).mpr (by simpa using (List.nodup_append.mp nd1).2.1), (List.nodup_append.mp R.nd).2.1, fun c hc b hb => (List.nodup_append.mp R.nd).2.2 c (sub c (mem c hc)) b hb⟩
  · have hba : b ≠ a := by
      rcases List.mem_append.mp hb with z | z
      · exact naA b (mem b z)
      · exact fun e => (List.nodup_append.mp R.nd).2.2 a haA b z e.symm
    show upd x.F a o' b = none
    rw [upd_ne hba]
    rcases List.mem_append.mp hb with z | z
    · exact R.nF b (List.mem_append_left _ (sub b (mem b z)))
    · exact R.nF b (List.mem_append_right _ z)
  · by_cases hb : b = a
    · subst hb
      exact .inr (List.mem_append_left _ haA)
    · have h2 : upd x.F a o' b ≠ none := h2
      rw [upd_ne hb] at h2
      exact absurd h1 h2
theorem Rel.freeze {l : List D} (R : Rel x r m s H) {i : Nat} (h : r[i]? = some (some (.lst l))) : ∃ y : Sx pw, Rel y (r.set i (some (.val (.lst l)))) m s H ∧ StS x H y H :=
  R.freezeG h fun v A hc => by
    cases hc with
    | @lst a ds vs ha rp => exact ⟨a, _, rfl, rfl, ha, fun n => .lst upd_same (rp.mono (fun b q e => by rw [upd_ne (ne_of_none e n)]; exact e) (.refl _))⟩
theorem Rel.freezeD {ks vs : List D} (R : Rel x r m s H) {i : Nat} (h : r[i]? = some (some (.dct ks vs))) : ∃ y : Sx pw, Rel y (r.set i (some (.val (.dct ks vs)))) m s H ∧ StS x H y H :=
  R.freezeG h fun v A hc => by
    cases hc with
    | @dct a ep ks vs xs ha rp => exact ⟨a, _, rfl, rfl, ha, fun n => .dct upd_same (rp.mono (fun b q e => by rw [upd_ne (ne_of_none e n)]; exact e) (.refl _))⟩
/-- a slot's own list is changed -/
theorem Rel.ownG {c : Cell} {Z : Addr → Prop} (R : Rel x r m s H) {i : Nat} (h : r[i]? = some (some c)) (inv : ∀ v A, CellR pw x.F x.io H c v A → ∃ a, A = [a] ∧ v = .ref a ∧ Z a) : ∃ a, s[i]? = some (some (.ref a)) ∧ a ∈ x.A1 ∧ Z a ∧
    ∀ (o' : HO) (c' : Cell), CellR pw x.F x.io (upd H a o') c' (.ref a) [a] → ∃ y : Sx pw, Rel y (r.set i (some c')) m s (upd H a o') ∧ StS x H y (upd H a o') := by
  have hi : i < r.length := (List.getElem?_eq_some_iff.mp h).1
  obtain ⟨A0, A', p, g, wr, _⟩ := R.vars.at hi
  obtain ⟨v, ev, hc⟩ := g _ h
  obtain ⟨a, rfl, rfl, hz⟩ := inv _ _ hc
  have haA : a ∈ x.A1 := p.mem_iff.mpr (List.mem_append_left _ (by simp))
  refine ⟨a, ev, haA, hz, fun o' c' rp' => ?_⟩
  have haF : x.F a = none := R.nF a (List.mem_append_left _ haA)
  have nd1 : ([a] ++ A').Nodup := (p.nodup_iff).mp (List.nodup_append.mp R.nd).1
  have naA : ∀ b ∈ A', b ≠ a := fun b hb e => by
    subst e
    exact (List.nodup_append.mp nd1).2.2 b (by simp) b hb rfl
  have na2 : ∀ b ∈ x.A2, b ≠ a := fun b hb e => (List.nodup_append.mp R.nd).2.2 a haA b hb e.symm
  obtain ⟨A2, p2, q⟩ := wr (F' := x.F) (io' := x.io) (H' := upd H a o') (.refl _) (.refl _) (fun b hb o h => by rw [upd_ne (naA b hb)]; exact h) rp'
  have mem : ∀ b ∈ A2, b = a ∨ b ∈ A' := fun b hb => by simpa using p2.mem_iff.mp hb
  have sub : ∀ b ∈ A', b ∈ x.A1 := fun b hb => p.mem_iff.mpr (List.mem_append_right _ hb)
  have sub2 : ∀ b ∈ A2, b ∈ x.A1 := fun b hb => (mem b hb).elim (fun e => by rw [e]; exact haA) (sub b)
  have es : s.set i (some (.ref a)) = s := by
    refine List.ext_getElem? fun j => ?_
    by_cases hj : j = i
    · subst hj
      have hl : j < s.length := by rw [← R.vars.length]; exact hi
      rw [List.getElem?_set_self hl, ev]
    · rw [List.getElem?_set_ne (Ne.symm hj)]
  rw [es] at q
  refine ⟨(x.w1 (A2)), ⟨fun b o e => ?_, q, R.sto.mono (.refl _) (.refl _) (fun b hb o h => by rw [upd_ne (na2 b hb)]; exact h), ?_, fun b hb => ?_⟩, ⟨⟨.refl _, .refl _, fun b o h n => ?_, fun b h => ?_, fun b h1 h2 => absurd h1 h2, fun b h => .inl h⟩, fun b h => .inl (sub2 b h)⟩⟩
  · rw [upd_ne (ne_of_none (H := x.F) e haF)]
    exact R.sub _ _ e
  · refine List.nodup_append.mpr ⟨(p2.nodup_iff).mpr nd1, (List.nodup_append.mp R.nd).2.1, fun c hc b hb => (List.nodup_append.mp R.nd).2.2 c (sub2 c hc) b hb⟩
  · rcases List.mem_append.mp hb with z | z
    · exact R.nF b (List.mem_append_left _ (sub2 b z))
    · exact R.nF b (List.mem_append_right _ z)
  · have hb : b ≠ a := fun e => n (by rw [e]; exact List.mem_append_left _ haA)
    rw [upd_ne hb]
    exact h
  · by_cases hb : b = a
    · subst hb
      rw [upd_same] at h
      cases h
    · rw [upd_ne hb] at h
      exact h
theorem Rel.own {l l' : List D} (R : Rel x r m s H) {i : Nat} (h : r[i]? = some (some (.lst l))) : ∃ a vs, s[i]? = some (some (.ref a)) ∧ a ∈ x.A1 ∧ H a = some (.lst vs) ∧ Reps x.F x.io l vs ∧
    ∀ vs', Reps x.F x.io l' vs' → ∃ y : Sx pw, Rel y (r.set i (some (.lst l'))) m s (upd H a (.lst vs')) ∧ StS x H y (upd H a (.lst vs')) := by
  obtain ⟨a, e1, e2, ⟨vs, e3, e4⟩, up⟩ := R.ownG (Z := fun a => ∃ vs, H a = some (.lst vs) ∧ Reps x.F x.io l vs) h fun v A hc => by
    cases hc with
    | @lst a ds vs ha rp => exact ⟨a, rfl, rfl, vs, ha, rp⟩
  exact ⟨a, vs, e1, e2, e3, e4, fun vs' q => up _ _ (.lst upd_same q)⟩
theorem Rel.ownD {ks vs : List D} (R : Rel x r m s H) {i : Nat} (h : r[i]? = some (some (.dct ks vs))) : ∃ a ep xs, s[i]? = some (some (.ref a)) ∧ a ∈ x.A1 ∧ H a = some (dN pw a xs ep) ∧ DPairs x.F x.io ks vs xs ∧
    ∀ ks' vs' xs' ep', DPairs x.F x.io ks' vs' xs' → ∃ y : Sx pw, Rel y (r.set i (some (.dct ks' vs'))) m s (upd H a (dN pw a xs' ep')) ∧ StS x H y (upd H a (dN pw a xs' ep')) := by
  obtain ⟨a, e1, e2, ⟨ep, xs, e3, e4⟩, up⟩ := R.ownG (Z := fun a => ∃ ep xs, H a = some (dN pw a xs ep) ∧ DPairs x.F x.io ks vs xs) h fun v A hc => by
    cases hc with
    | @dct a ep ks vs xs ha rp => exact ⟨a, rfl, rfl, ep, xs, ha, rp⟩
  exact ⟨a, ep, xs, e1, e2, e3, e4, fun ks' vs' xs' ep' q => up _ _ (.dct upd_same q)⟩
end

/-! ### blocks -/
def sSkip : SS := fun r m => .nx r m
def sSeq (f g : SS) : SS := fun r m => match f r m with
  | .nx r m => g r m
  | o => o
def sForget (i : Nat) (g : SS) : SS := fun r m => g (r.set i none) m
def sFreeze (i : Nat) (g : SS) : SS := fun r m => match r[i]? with
  | some (some (.lst l)) => g (r.set i (some (.val (.lst l)))) m
  | some (some (.dct ks vs)) => g (r.set i (some (.val (.dct ks vs)))) m
  | _ => .bad
section
variable {X : Cx} {w : Wi} {st : Stmt} {rest sts : List Stmt} {f g : SS} {pos : Pos} {e : Expr} {fe : SE}
theorem dss_nil : DSs X w [] sSkip := PSs.imp pss_nil fun E s H ⟨x, r, m, R, q⟩ => FinS.here R q
theorem rd_seq (E : Ends) (s : L2.St) (H : Hp) (q : rdS pw w (sSeq f g) E s H) : rdS pw w f { E with nx := rdS pw w g E } s H := by
  obtain ⟨x, r, m, R, q⟩ := q
  refine ⟨x, r, m, R, ?_⟩
  unfold sSeq at q
  cases k : f r m with
  | nx r' m' =>
    rw [k] at q
    exact fun s' y H' R' st => ⟨y, r', m', R', FinS.shift st q⟩
  | rt d m' => rw [k] at q; exact q
  | bk r' m' => rw [k] at q; exact q
  | ct r' m' => rw [k] at q; exact q
  | exc c v r' m' => rw [k] at q; exact q
  | bad => rw [k] at q; exact q
theorem dss_cons (h1 : DS X w st f) (h2 : DSs X w rest g) : DSs X w (st :: rest) (sSeq f g) := PSs.imp (pss_cons h1 h2) rd_seq
theorem dss_one (h1 : DS X w st f) : DSs X w [st] f := pss_one h1
theorem dss_forget (i : Nat) (h : DSs X w sts g) : DSs X w sts (sForget i g) := PSs.imp h fun E s H ⟨x, r, m, R, q⟩ => by
  obtain ⟨y, R', st⟩ := R.forget i
  exact ⟨y, _, m, R', FinS.shift st q⟩
theorem dss_freeze (i : Nat) (h : DSs X w sts g) : DSs X w sts (sFreeze i g) := PSs.imp h fun E s H ⟨x, r, m, R, q⟩ => by
  unfold sFreeze at q
  split at q
  · rename_i l hl
    obtain ⟨y, R', st⟩ := R.freeze hl
    exact ⟨y, _, m, R', FinS.shift st q⟩
  · rename_i ks vs hl
    obtain ⟨y, R', st⟩ := R.freezeD hl
    exact ⟨y, _, m, R', FinS.shift st q⟩
  · exact q.elim
theorem dss_never : DSs X w sts (fun _ _ => .bad) := PSs.imp pss_never fun E s H ⟨x, r, m, R, q⟩ => q.elim
theorem ds_never : DS X w st (fun _ _ => .bad) := PS.imp ps_never fun E s H ⟨x, r, m, R, q⟩ => q.elim
theorem ds_doc {x : Str} {j : Nat} {p : Pos} : DS X w (.Expr (.Constant (.str x) j p) pos) sSkip := PS.imp ps_doc fun E s H ⟨x, r, m, R, q⟩ => FinS.here R q
theorem ds_pass : DS X w (.Pass pos) sSkip := PS.imp ps_pass fun E s H ⟨x, r, m, R, q⟩ => FinS.here R q
theorem ds_break : DS X w (.Break pos) (fun r m => .bk r m) := PS.imp ps_break fun E s H ⟨x, r, m, R, q⟩ => q s x H R .refl
theorem ds_continue : DS X w (.Continue pos) (fun r m => .ct r m) := PS.imp ps_continue fun E s H ⟨x, r, m, R, q⟩ => q s x H R .refl
/-! ### return, expressions, if -/
def sRet (f : SE) : SS := fun r m => bindS r (f r m) fun d m => .rt d m
def sExpr (f : SE) : SS := fun r m => bindS r (f r m) fun _ m => .nx r m
theorem ds_ret (h : DE X w e fe) : DS X w (.Return (some e) pos) (sRet fe) := PS.imp (ps_ret h) fun E s H ⟨x, r, m, R, q⟩ => by
  refine rd_bindS R q fun d m1 v y H1 R1 p1 st1 q1 => ?_
  exact q1 v (y.w1 ([])) H1 R1.leave p1 (StS.leave R1)
theorem ds_retN : DS X w (.Return none pos) (fun _ m => .rt .non m) := PS.imp ps_retN fun E s H ⟨x, r, m, R, q⟩ => q .non (x.w1 ([])) H R.leave .non (StS.leave R)
theorem ds_expr (h : DE X w e fe) (hs : swapsWith e none pos.line X.env = pure false := by rfl) : DS X w (.Expr e pos) (sExpr fe) := PS.imp (ps_expr h hs) fun E s H ⟨x, r, m, R, q⟩ => by
  refine rd_bindS R q fun d m1 v y H1 R1 p1 st1 q1 => ?_
  exact FinS.here R1 q1
def sIfS (t : SB) (f g : SS) : SS := fun r m => bindS r (t r m) fun b m => if b = true then f r m else g r m
theorem ds_if {c : Expr} {a b : List Stmt} {t : SB} (hc : DT X w c t) (ha : DSs X w a f) (hb : DSs X w b g) : DS X w (.If c a b pos) (sIfS t f g) := PS.imp (ps_if hc ha hb) fun E s H ⟨x, r, m, R, q⟩ => by
  refine rd_bindS R q fun k m1 v y H1 R1 p1 st1 q1 => ?_
  cases p1
  cases k with
  | true =>
    rw [if_pos rfl] at q1 ⊢
    exact ⟨y, r, m1, R1, q1⟩
  | false =>
    rw [if_neg Bool.false_ne_true] at q1 ⊢
    exact ⟨y, r, m1, R1, q1⟩
end

/-! ### cells: what a name is given -/
abbrev SCe := Sem1 Cell
def FinC (w : Wi) (x : Sx pw) (r : Env) (s : L2.St) (H : Hp) (Q : VK) : R Cell → Prop
  | .ok c m => ∀ v y H' A, Rel y r m s H' → CellR pw y.F y.io H' c v A → (∀ a ∈ A, y.F a = none ∧ a ∉ y.A1 ++ y.A2 ∧ H a = none) → StE x H y H' → Q v H'
  | .exc c v m => ∀ cls d y H', Rel y r m s H' → ExAt w c v cls d y H' → StE x H y H' → w.W cls d s H'
  | .bad => False
def rdC (pw : PWd) (w : Wi) (f : SCe) : TE := fun s H Q => ∃ (x : Sx pw) (r : Env) (m : Sto), Rel x r m s H ∧ FinC w x r s H Q (f r m)
abbrev DC (X : Cx) (w : Wi) (e : Expr) (f : SCe) : Prop := PE X e (rdC (pwOf X) w f)
def cV (f : SE) : SCe := fun r m => bindR (f r m) fun d m => .ok (.val d) m
def cL (g : SL) : SCe := fun r m => bindR (g r m) fun ds m => if ds.length ≤ LIM then .ok (.lst ds) m else .bad
section
variable {x y : Sx pw} {r : Env} {m : Sto} {s : L2.St} {H H' : Hp} {w : Wi} {E : Ends} {X : Cx} {e : Expr} {es : List Expr} {pos : Pos} {fe : SE} {g : SL}
theorem FinC.shift {Q : VK} {a : R Cell} (st : StE x H y H') (h : FinC w x r s H Q a) : FinC w y r s H' Q a := by
  cases a with
  | ok c m => exact fun v z H2 A R p n t => h v z H2 A R p (fun a ha => ⟨(n a ha).1, (n a ha).2.1, st.st.there a (n a ha).2.2⟩) (st.trans t)
  | exc c v m => exact fun cls d z H2 R p t => h cls d z H2 R p (st.trans t)
  | bad => exact h
theorem dc_val (h : DE X w e fe) : DC X w e (cV fe) := PE.imp h fun s H Q ⟨x, r, m, R, q⟩ => by
  refine ⟨x, r, m, R, ?_⟩
  unfold cV at q
  cases k : fe r m with
  | ok d m' =>
    rw [k] at q
    exact fun v y H' R' p st => q v y H' [] R' (.val p) (fun a ha => by cases ha) st
  | exc c v m' =>
    rw [k] at q
    exact q
  | bad =>
    rw [k] at q
    exact q
theorem dc_own (h : DA X w es g) : DC X w (.List es pos) (cL g) := PE.imp (pe_lst h) fun s H Q ⟨x, r, m, R, q⟩ => by
  show rd PL w g s H _
  refine ⟨x, r, m, R, ?_⟩
  unfold cL at q
  cases k : g r m with
  | ok ds m' =>
    rw [k] at q
    intro vs y H' R' p st
    have q : FinC w x r s H Q (if ds.length ≤ LIM then .ok (.lst ds) m' else .bad) := q
    by_cases hz : ds.length ≤ LIM
    · rw [if_pos hz] at q
      refine ⟨by rw [← Reps.length p, ← lim_eq]; exact hz, fun a ha => ?_⟩
      have haF : y.F a = none := by
        cases e : y.F a with
        | none => rfl
        | some o => rw [R'.sub _ _ e] at ha; cases ha
      have R2 : Rel y r m' s (upd H' a (.lst vs)) := ⟨fun b o e => by rw [upd_ne (ne_of_none (R'.sub _ _ e) ha)]; exact R'.sub _ _ e, R'.vars.mono (.refl _) (.refl _) fun b _ o e => by rw [upd_ne (ne_of_none e ha)]; exact e,
        R'.sto.mono (.refl _) (.refl _) fun b _ o e => by rw [upd_ne (ne_of_none e ha)]; exact e, R'.nd, R'.nF⟩
      refine q (.ref a) y (upd H' a (.lst vs)) [a] R2 (.lst upd_same p) (fun b hb => ?_) (st.trans ⟨⟨.refl _, .refl _, fun b o e _ => by rw [upd_ne (ne_of_none e ha)]; exact e, fun b e => ?_, fun b h1 h2 => absurd h1 h2, fun b h => .inl h⟩, rfl⟩)
      · have e := List.mem_singleton.mp hb
        subst e
        exact ⟨haF, fun z => R'.there b z ha, st.st.there b ha⟩
      · by_cases hb : b = a
        · subst hb
          exact ha
        · rw [upd_ne hb] at e
          exact e
    · rw [if_neg hz] at q
      exact q.elim
  | exc c v m' =>
    rw [k] at q
    exact q
  | bad =>
    rw [k] at q
    exact q
/-- a cell within a statement -/
theorem rdC_bindS {f : SCe} {k : Cell → Sto → Fl} {K : VK} (R : Rel x r m s H) (h : FinS w x H E (bindS r (f r m) k))
    (kk : ∀ c m' v y H' A, Rel y r m' s H' → CellR pw y.F y.io H' c v A → (∀ a ∈ A, y.F a = none ∧ a ∉ y.A1 ++ y.A2 ∧ H a = none) → StE x H y H' → FinS w x H E (k c m') → K v H') : rdC pw w f s H K := by
  refine ⟨x, r, m, R, ?_⟩
  cases e : f r m with
  | ok a m' =>
    rw [e] at h
    exact fun v y H' A R' p n st => kk a m' v y H' A R' p n st h
  | exc c v m' =>
    rw [e] at h
    exact fun cls d y H' R' p st => h cls d s y H' R' p st.toS
  | bad =>
    rw [e] at h
    exact h
theorem CellR.stay {c : Cell} {v : V} {A : List Addr} (h : CellR pw x.F x.io H c v A) (hA : ∀ a ∈ A, x.F a = none ∧ a ∉ x.A1 ++ x.A2) (st : StE x H y H') : CellR pw y.F y.io H' c v A ∧ ∀ a ∈ A, y.F a = none ∧ a ∉ y.A1 ++ y.A2 := by
  have no : ∀ a ∈ A, a ∉ x.A2 := fun a ha z => (hA a ha).2 (List.mem_append_right _ z)
  refine ⟨h.mono st.st.F st.st.io fun b hb o e => st.st.keep b o e (no b hb), fun a ha => ⟨?_, fun z => ?_⟩⟩
  · cases e : y.F a with
    | none => rfl
    | some o =>
      rcases st.st.newF a (hA a ha).1 (by rw [e]; exact fun z => by cases z) with z | z
      · exact absurd z (h.there a ha)
      · exact absurd z (no a ha)
  · rcases List.mem_append.mp z with z | z
    · rw [st.a1] at z
      exact (hA a ha).2 (List.mem_append_left _ z)
    · rcases st.st.newA a z with z | z
      · exact no a ha z
      · exact h.there a ha z
theorem StS.put {z : Sx pw} {A : List Addr} (st : StE x H y H') (e1 : z.F = y.F) (e2 : z.io = y.io) (e3 : z.A2 = y.A2) (e4 : ∀ b ∈ z.A1, b ∈ y.A1 ∨ b ∈ A) (hA : ∀ a ∈ A, H a = none) : StS x H z H' := by
  have t := st.toS
  refine ⟨⟨by rw [e1]; exact t.st.F, by rw [e2]; exact t.st.io, t.st.keep, t.st.there, by rw [e1]; exact t.st.newF, by rw [e3]; exact t.st.newA⟩, fun b hb => ?_⟩
  rcases e4 b hb with h | h
  · exact t.a1 b h
  · exact .inr (.inr (hA b h))
/-- x = e -/
def sSet (i : Nat) (f : SCe) : SS := fun r m => bindS r (f r m) fun c m => .nx (r.set i (some c)) m
theorem ds_set {i : Nat} {n : Str} {f : SCe} {pos' : Pos} (hN : X.N.Nodup) (hi : X.N[i]? = some n) (hx : Loc X.env.scope n) (he : DC X w e f) (hs : swapsWith e (some (.Name n pos')) pos.line X.env = pure false := by rfl) (hf : X.fn n = true ∨ X.env.scope.names.lookup n = some .local := by first | exact .inl rfl | exact .inr rfl | assumption) :
    DS X w (.Assign [.Name n pos'] e pos) (sSet i f) := PS.imp (ps_set hN hi hx he hs hf) fun E s H ⟨x, r, m, R, q⟩ => by
  refine rdC_bindS R q fun c m1 v y H1 A R1 hc hA st q1 => ?_
  obtain ⟨z, R2, e1, e2, e3, e4⟩ := R1.put i hc fun a ha => ⟨(hA a ha).1, (hA a ha).2.1⟩
  exact q1 _ z H1 R2 (StS.put st e1 e2 e3 e4 fun a ha => (hA a ha).2.2)
end
end Dl
set_option autoImplicit true
/-! The data layer: targets, pairs, lists that grow, loops. -/
namespace Dl
open PySem PySem.Spec PyProof.Rows L2 TL
section
variable {x y : Sx pw} {r : Env} {m : Sto} {s : L2.St} {H H' : Hp} {w : Wi} {E : Ends} {X : Cx} {e a b c : Expr} {es : List Expr} {pos : Pos} {fe : SE} {g : SL}

/-! ### a, b = e1, e2 -/
/-- a cell that waits to be stored: its places are nobody's, and were none at the start -/
structure Wait (H0 : Hp) (y : Sx pw) (H : Hp) (c : Cell) (v : V) (A : List Addr) : Prop where
  rep : CellR pw y.F y.io H c v A
  own : ∀ a ∈ A, y.F a = none ∧ a ∉ y.A1 ++ y.A2
  new : ∀ a ∈ A, H0 a = none
theorem Wait.stay {H0 : Hp} {c : Cell} {v : V} {A : List Addr} (h : Wait H0 x H c v A) (st : StE x H y H') : Wait H0 y H' c v A :=
  let ⟨p, q⟩ := h.rep.stay h.own st
  ⟨p, q, h.new⟩
theorem rdC_bindW {f : SCe} {k : Cell → Sto → Fl} {K : VK} {x0 : Sx pw} {H0 : Hp} (st0 : StE x0 H0 x H) (R : Rel x r m s H) (h : FinS w x0 H0 E (bindS r (f r m) k))
    (kk : ∀ c m' v y H' A, Rel y r m' s H' → Wait H0 y H' c v A → (∀ a ∈ A, H a = none) → StE x H y H' → StE x0 H0 y H' → FinS w x0 H0 E (k c m') → K v H') : rdC pw w f s H K := by
  refine ⟨x, r, m, R, ?_⟩
  cases e : f r m with
  | ok a m' =>
    rw [e] at h
    exact fun v y H' A R' p n st => kk a m' v y H' A R' ⟨p, fun a ha => ⟨(n a ha).1, (n a ha).2.1⟩, fun a ha => st0.st.there a (n a ha).2.2⟩ (fun a ha => (n a ha).2.2) st (st0.trans st) h
  | exc c v m' =>
    rw [e] at h
    exact fun cls d y H' R' p st => h cls d s y H' R' p (st0.trans st).toS
  | bad =>
    rw [e] at h
    exact h
/-- stored, what else waits goes on waiting -/
theorem Rel.store {H0 : Hp} {c : Cell} {v : V} {A : List Addr} {x0 : Sx pw} (st : StE x0 H0 x H ∨ StS x0 H0 x H) (R : Rel x r m s H) (h : Wait H0 x H c v A) (i : Nat) :
    ∃ y : Sx pw, Rel y (r.set i (some c)) m (s.set i (some v)) H ∧ StS x0 H0 y H ∧ ∀ d u B, Wait H0 x H d u B → (∀ b ∈ B, b ∉ A) → Wait H0 y H d u B := by
  obtain ⟨y, R', e1, e2, e3, e4⟩ := R.put i h.rep h.own
  have t : StS x0 H0 x H := st.elim StE.toS id
  refine ⟨y, R', ⟨⟨by rw [e1]; exact t.st.F, by rw [e2]; exact t.st.io, t.st.keep, t.st.there, by rw [e1]; exact t.st.newF, by rw [e3]; exact t.st.newA⟩, fun b hb => ?_⟩, fun d u B hw hd => ⟨by rw [e1, e2]; exact hw.rep, fun b hb => ⟨by rw [e1]; exact (hw.own b hb).1, fun z => ?_⟩, hw.new⟩⟩
  · rcases e4 b hb with z | z
    · exact t.a1 b z
    · exact .inr (.inr (h.new b z))
  · rcases List.mem_append.mp z with z | z
    · rcases e4 b z with z | z
      · exact (hw.own b hb).2 (List.mem_append_left _ z)
      · exact hd b hb z
    · rw [e3] at z
      exact (hw.own b hb).2 (List.mem_append_right _ z)
theorem apart {c : Cell} {v : V} {A B : List Addr} (h : CellR pw x.F x.io H c v A) (hB : ∀ b ∈ B, H b = none) : ∀ b ∈ B, b ∉ A := fun b hb z => h.there b z (hB b hb)
def sPar (i j : Nat) (f g : SCe) : SS := fun r m => bindS r (f r m) fun c m => bindS r (g r m) fun d m => .nx ((r.set i (some c)).set j (some d)) m
theorem ds_par {i j : Nat} {n k : Str} {f h : SCe} {px py pt : Pos} {kt k2 : Nat} {pt2 : Pos} (hc : X.calm = true) (hN : X.N.Nodup) (hi : X.N[i]? = some n) (hj : X.N[j]? = some k) (hij : i ≠ j)
    (hx : X.env.scope.names.lookup n = some .local) (hy : X.env.scope.names.lookup k = some .local) (ha : DC X w a f) (hb : DC X w b h)
    (hw : swappedStores [.Tuple [.Name n px, .Name k py] kt pt] (.Tuple [a, b] k2 pt2) X.env = pure (some [n, k]))
    (hs : swapsWithSole [.Tuple [.Name n px, .Name k py] kt pt] (.Tuple [a, b] k2 pt2) pos.line X.env = pure false := by rfl) (h1 : starEach [a, b] X.env = (false, eval a X.env) :: starEach [b] X.env := by rfl) (h2 : starEach [b] X.env = [(false, eval b X.env)] := by rfl) :
    DS X w (.Assign [.Tuple [.Name n px, .Name k py] kt pt] (.Tuple [a, b] k2 pt2) pos) (sPar i j f h) :=
  PS.imp (ps_par hc hN hi hj hij hx hy (pa_cons ha (pa_cons hb pa_nil h2) h1) hw hs) fun E s H ⟨x, r, m, R, q⟩ => by
    refine rdC_bindW .refl R q fun c m1 v y H1 A R1 hc hA st st0 q1 => ?_
    refine rdC_bindW st0 R1 q1 fun d m2 u z H2 B R2 hd hB st2 st02 q2 => ?_
    refine ⟨v, u, rfl, ?_⟩
    obtain ⟨t, R3, st3, wt⟩ := R2.store (.inl st02) (hc.stay st2) i
    obtain ⟨o, R4, st4, _⟩ := R3.store (.inr st3) (wt _ _ _ hd (apart hc.rep hB)) j
    exact q2 _ o H2 R4 st4
def sPar3 (i j l : Nat) (f g h : SCe) : SS := fun r m => bindS r (f r m) fun c m => bindS r (g r m) fun d m => bindS r (h r m) fun k m => .nx (((r.set i (some c)).set j (some d)).set l (some k)) m
theorem ds_par3 {i j l : Nat} {n k u : Str} {f h o : SCe} {px py pz pt : Pos} {kt k2 : Nat} {pt2 : Pos} (hc : X.calm = true) (hN : X.N.Nodup) (hi : X.N[i]? = some n) (hj : X.N[j]? = some k) (hl : X.N[l]? = some u) (hij : i ≠ j) (hil : i ≠ l) (hjl : j ≠ l)
    (hx : X.env.scope.names.lookup n = some .local) (hy : X.env.scope.names.lookup k = some .local) (hz : X.env.scope.names.lookup u = some .local) (ha : DC X w a f) (hb : DC X w b h) (hcc : DC X w c o)
    (hw : swappedStores [.Tuple [.Name n px, .Name k py, .Name u pz] kt pt] (.Tuple [a, b, c] k2 pt2) X.env = pure (some [n, k, u]))
    (hs : swapsWithSole [.Tuple [.Name n px, .Name k py, .Name u pz] kt pt] (.Tuple [a, b, c] k2 pt2) pos.line X.env = pure false := by rfl) (h1 : starEach [a, b, c] X.env = (false, eval a X.env) :: starEach [b, c] X.env := by rfl) (h2 : starEach [b, c] X.env = (false, eval b X.env) :: starEach [c] X.env := by rfl) (h3 : starEach [c] X.env = [(false, eval c X.env)] := by rfl) :
    DS X w (.Assign [.Tuple [.Name n px, .Name k py, .Name u pz] kt pt] (.Tuple [a, b, c] k2 pt2) pos) (sPar3 i j l f h o) :=
  PS.imp (ps_par3 hc hN hi hj hl hij hil hjl hx hy hz (pa_cons ha (pa_cons hb (pa_cons hcc pa_nil h3) h2) h1) hw hs) fun E s H ⟨x, r, m, R, q⟩ => by
    refine rdC_bindW .refl R q fun c m1 v y H1 A R1 hc hA st st0 q1 => ?_
    refine rdC_bindW st0 R1 q1 fun d m2 u z H2 B R2 hd hB st2 st02 q2 => ?_
    refine rdC_bindW st02 R2 q2 fun k m3 o t H3 C R3 hk hC st3 st03 q3 => ?_
    refine ⟨v, u, o, rfl, ?_⟩
    have hc2 := hc.stay st2
    obtain ⟨t1, Q1, s1, w1⟩ := R3.store (.inl st03) (hc2.stay st3) i
    obtain ⟨t2, Q2, s2, w2⟩ := Q1.store (.inr s1) (w1 _ _ _ (hd.stay st3) (apart hc.rep hB)) j
    obtain ⟨t3, Q3, s3, _⟩ := Q2.store (.inr s2) (w2 _ _ _ (w1 _ _ _ hk (apart hc2.rep hC)) (apart hd.rep hC)) l
    exact q3 _ t3 H3 Q3 s3

/-! ### targets -/
abbrev Gm := D → Env → Option Env
/-- only these slots are other -/
def Only (ws : List Nat) (s s' : L2.St) : Prop := s'.length = s.length ∧ ∀ j, j ∉ ws → s'[j]? = s[j]?
theorem Only.refl {ws : List Nat} {s : L2.St} : Only ws s s := ⟨rfl, fun _ _ => rfl⟩
theorem Only.trans {ws vs : List Nat} {s s' s2 : L2.St} (a : Only ws s s') (b : Only vs s' s2) : Only (ws ++ vs) s s2 :=
  ⟨b.1.trans a.1, fun j h => (b.2 j fun z => h (List.mem_append_right _ z)).trans (a.2 j fun z => h (List.mem_append_left _ z))⟩
def rdG (pw : PWd) (ws : List Nat) (f : Gm) : TG := fun v s H Q => ∃ (x : Sx pw) (r : Env) (m : Sto) (d : D), Rel x r m s H ∧ Rep x.F x.io d v ∧ match f d r with
  | some r' => ∀ s' (y : Sx pw), Rel y r' m s' H → y.F = x.F → y.io = x.io → y.A2 = x.A2 → (∀ b ∈ y.A1, b ∈ x.A1) → Only ws s s' → Q s' H
  | none => False
abbrev DG (X : Cx) (tg : Expr) (ws : List Nat) (f : Gm) : Prop := PG X tg (rdG (pwOf X) ws f)
def gN (i : Nat) : Gm := fun d r => some (r.set i (some (.val d)))
theorem dg_name {i : Nat} {n : Str} (hN : X.N.Nodup) (hi : X.N[i]? = some n) (hx : Loc X.env.scope n) (hf : X.fn n = true ∨ X.env.scope.names.lookup n = some .local := by first | exact .inl rfl | exact .inr rfl | assumption) : DG X (.Name n pos) [i] (gN i) :=
  PG.imp (pg_name hN hi hx hf) fun v s H Q ⟨x, r, m, d, R, p, q⟩ => by
    obtain ⟨y, R', e1, e2, e3, e4⟩ := R.putV i p
    exact q _ y R' e1 e2 e3 e4 ⟨List.length_set, fun j h => List.getElem?_set_ne fun e => h (by simp [e])⟩
abbrev Gms := List D → Env → Option Env
def gsNil : Gms := fun l r => match l with
  | [] => some r
  | _ => none
def gsCons (f : Gm) (g : Gms) : Gms := fun l r => match l with
  | d :: l => (f d r).bind (g l)
  | [] => none
def rdGs (pw : PWd) (ws : List Nat) (f : Gms) : TGs := fun vs s H Q => ∃ (x : Sx pw) (r : Env) (m : Sto) (ds : List D), Rel x r m s H ∧ Reps x.F x.io ds vs ∧ match f ds r with
  | some r' => ∀ s' (y : Sx pw), Rel y r' m s' H → y.F = x.F → y.io = x.io → y.A2 = x.A2 → (∀ b ∈ y.A1, b ∈ x.A1) → Only ws s s' → Q s' H
  | none => False
abbrev DGs (X : Cx) (ts : List Expr) (ws : List Nat) (f : Gms) : Prop := PGs X ts (rdGs (pwOf X) ws f)
theorem PGs.imp {es : List Expr} {t t' : TGs} (h : PGs X es t) (k : ∀ v s H Q, t' v s H Q → t v s H Q) : PGs X es t' := ⟨fun pins s σ H v u Q I r q => h.run pins s σ H v u Q I r (k _ _ _ _ q)⟩
theorem dgs_nil : DGs X [] [] gsNil := PGs.imp pgs_nil fun v s H Q ⟨x, r, m, ds, R, p, q⟩ => by
  cases p with
  | nil => exact ⟨rfl, q s x R rfl rfl rfl (fun b h => h) .refl⟩
  | cons _ _ => exact q.elim
theorem dgs_cons {f : Gm} {h : Gms} {ws vs : List Nat} (h1 : DG X e ws f) (h2 : DGs X es vs h) (hs : (assignEach (e :: es) X.env).map (·.2) = assign e X.env :: (assignEach es X.env).map (·.2) := by rfl) : DGs X (e :: es) (ws ++ vs) (gsCons f h) :=
  PGs.imp (pgs_cons h1 h2 hs) fun v s H Q ⟨x, r, m, ds, R, p, q⟩ => by
    cases p with
    | nil => exact q.elim
    | @cons d v ds us rp rt =>
      refine ⟨v, us, rfl, ⟨x, r, m, d, R, rp, ?_⟩⟩
      have q : match (f d r).bind (h ds) with
        | some r' => ∀ s' (y : Sx (pwOf X)), Rel y r' m s' H → y.F = x.F → y.io = x.io → y.A2 = x.A2 → (∀ b ∈ y.A1, b ∈ x.A1) → Only (ws ++ vs) s s' → Q s' H
        | none => False := q
      cases k : f d r with
      | none =>
        rw [k] at q
        exact q.elim
      | some r' =>
        rw [k] at q
        intro s' y R' e1 e2 e3 e4 o1
        refine ⟨y, r', m, ds, R', by rw [e1, e2]; exact rt, ?_⟩
        have q : match h ds r' with
          | some r' => ∀ s' (y : Sx (pwOf X)), Rel y r' m s' H → y.F = x.F → y.io = x.io → y.A2 = x.A2 → (∀ b ∈ y.A1, b ∈ x.A1) → Only (ws ++ vs) s s' → Q s' H
          | none => False := q
        cases k2 : h ds r' with
        | none =>
          rw [k2] at q
          exact q.elim
        | some r2 =>
          rw [k2] at q
          exact fun s2 z R2 g1 g2 g3 g4 o2 => q s2 z R2 (g1.trans e1) (g2.trans e2) (g3.trans e3) (fun b hb => e4 b (g4 b hb)) (o1.trans o2)
def gTup (f : Gms) : Gm := fun d r => match d with
  | .tup l => f l r
  | _ => none
/-- how many a targets' list takes -/
def Takes (f : Gms) (n : Nat) : Prop := ∀ l r, l.length ≠ n → f l r = none
theorem tk_nil : Takes gsNil 0 := fun l r h => by
  cases l with
  | nil => exact absurd rfl h
  | cons _ _ => rfl
theorem tk_cons {f : Gm} {h : Gms} {n : Nat} (t : Takes h n) : Takes (gsCons f h) (n + 1) := fun l r hl => by
  cases l with
  | nil => rfl
  | cons d l =>
    show (f d r).bind (h l) = none
    cases f d r with
    | none => rfl
    | some r' => exact t l r' fun e => hl (by simp [e])
theorem dg_tup {f : Gms} {k n : Nat} {ws : List Nat} (hc : X.calm = true) (h : DGs X es ws f) (t : Takes f n) (hn : (assignEach es X.env).length = n := by rfl) (hst : (assignEach es X.env).findIdx? (·.1) = none := by rfl) : DG X (.Tuple es k pos) ws (gTup f) :=
  PG.imp (pg_tup hc h hn hst) fun v s H Q ⟨x, r, m, d, R, p, q⟩ => by
    cases d with
    | tup l =>
      obtain ⟨a, vs, rfl, hF, hp, rp⟩ := (Pk.of (H := H) p).tup R
      by_cases hl : l.length = n
      · exact ⟨a, vs, rfl, SqT.of hp, by rw [← rp.length]; exact hl, x, r, m, l, R, rp, q⟩
      · have q : match f l r with
          | some r' => ∀ s' (y : Sx (pwOf X)), Rel y r' m s' H → y.F = x.F → y.io = x.io → y.A2 = x.A2 → (∀ b ∈ y.A1, b ∈ x.A1) → Only ws s s' → Q s' H
          | none => False := q
        rw [t l r hl] at q
        exact q.elim
    | _ => exact q.elim
/-- target = e -/
def sAsg (g : Gm) (f : SE) : SS := fun r m => bindS r (f r m) fun d m => match g d r with
  | some r' => .nx r' m
  | none => .bad
theorem rd_target {f : Gm} {ws : List Nat} {E : Ends} {d : D} {v : V} {x0 : Sx pw} {H0 : Hp} {k : Env → Fl} {K : L2.St → Hp → Prop} (st : StS x0 H0 x H) (R : Rel x r m s H) (p : Rep x.F x.io d v) (q : FinS w x0 H0 E (match f d r with | some r' => k r' | none => .bad))
    (kk : ∀ r' s' y, Rel y r' m s' H → StS x0 H0 y H → FinS w x0 H0 E (k r') → f d r = some r' → K s' H) : rdG pw ws f v s H K := by
  refine ⟨x, r, m, d, R, p, ?_⟩
  cases e : f d r with
  | none =>
    rw [e] at q
    exact q.elim
  | some r' =>
    rw [e] at q
    exact fun s' y R' e1 e2 e3 e4 _ => kk r' s' y R' (st.trans (.same e1 e2 e3 fun b hb => .inl (e4 b hb))) q e
theorem ds_asg {tg : Expr} {f : Gm} {ws : List Nat} (he : DE X w e fe) (hg : DG X tg ws f) (hs : swapsWithSole [tg] e pos.line X.env = pure false := by rfl) (hw : swappedStores [tg] e X.env = pure none := by rfl)
    (h1 : (assignEach [tg] X.env).map (·.2) = [assign tg X.env] := by rfl) : DS X w (.Assign [tg] e pos) (sAsg f fe) :=
  PS.imp (ps_asg he hg hs hw h1) fun E s H ⟨x, r, m, R, q⟩ => by
    refine rd_bindS R q fun d m1 v y H1 R1 p1 st1 q1 => ?_
    exact rd_target .refl R1 p1 q1 fun r' s' z R2 st2 q2 _ => q2 s' z H1 R2 st2

/-! ### lists that grow -/
/-- x.append(e), x a slot's own list -/
def sApp (i : Nat) (f : SE) : SS := fun r m => match r[i]? with
  | some (some (.lst l)) => bindS r (f r m) fun d m => if l.length < LIM then .nx (r.set i (some (.lst (l ++ [d])))) m else .bad
  | _ => .bad
theorem ds_app {i : Nat} {o : Expr} {p1 p2 : Pos} (ho : PE X o (tVar i)) (ha : DE X w e fe)
    (hs : swapsWith (.Call (.Attribute o "append" p1) [e] [] p2) none pos.line X.env = pure false := by rfl) (hst : starEach [e] X.env = [(false, eval e X.env)] := by rfl)
    (hp : PE X (.Call (.Attribute o "append" p1) [e] [] p2) (tBM X.K "list" rAppend (tVar i) (tCons (rd (PV (pw := pwOf X)) w fe) tNil))) :
    DS X w (.Expr (.Call (.Attribute o "append" p1) [e] [] p2) pos) (sApp i fe) := PS.imp (ps_expr hp hs) fun E s H ⟨x, r, m, R, q⟩ => by
  unfold sApp at q
  split at q
  · rename_i l hl
    obtain ⟨a, vs, es, haA, ha, rp, _⟩ := R.own (l' := []) hl
    refine ⟨.ref a, es, .inl ⟨rfl, vs, SqL.of ha⟩, ?_⟩
    refine rd_bindS R q fun d m1 v y H1 R1 p1 st1 q1 => ?_
    obtain ⟨hz, q1⟩ := FinS.ite q1
    obtain ⟨a', vs', es', haA', ha', rp', up⟩ := R1.own (l' := l ++ [d]) hl
    have e1 : a' = a := by
      rw [es] at es'
      cases es'
      rfl
    subst e1
    refine ⟨a', vs', v, rfl, rfl, ha', by rw [← rp'.length, ← lim_eq]; exact hz, ?_⟩
    obtain ⟨z, R2, st2⟩ := up (vs' ++ [v]) (rp'.append (.cons p1 .nil))
    exact q1 s z _ R2 st2
  · exact q.elim
/-- x.extend(e) -/
def sExt (i : Nat) (f : SE) : SS := fun r m => match r[i]? with
  | some (some (.lst l)) => bindS r (f r m) fun d m => match d with
    | .lst k => if l.length + k.length ≤ LIM then .nx (r.set i (some (.lst (l ++ k)))) m else .bad
    | _ => .bad
  | _ => .bad
theorem ds_ext {i : Nat} {o : Expr} {p1 p2 : Pos} (ho : PE X o (tVar i)) (ha : DE X w e fe)
    (hs : swapsWith (.Call (.Attribute o "extend" p1) [e] [] p2) none pos.line X.env = pure false := by rfl)
    (hp : PE X (.Call (.Attribute o "extend" p1) [e] [] p2) (tBM X.K "list" rExtend (tVar i) (tCons (rd (PV (pw := pwOf X)) w fe) tNil))) :
    DS X w (.Expr (.Call (.Attribute o "extend" p1) [e] [] p2) pos) (sExt i fe) := PS.imp (ps_expr hp hs) fun E s H ⟨x, r, m, R, q⟩ => by
  unfold sExt at q
  split at q
  · rename_i l hl
    obtain ⟨a, vs, es, haA, ha, rp, _⟩ := R.own (l' := []) hl
    refine ⟨.ref a, es, .inl ⟨rfl, vs, SqL.of ha⟩, ?_⟩
    refine rd_bindS R q fun d m1 v y H1 R1 p1 st1 q1 => ?_
    cases d with
    | lst k =>
      obtain ⟨hz, q1⟩ := FinS.ite q1
      obtain ⟨a', vs', es', haA', ha', rp', up⟩ := R1.own (l' := l ++ k) hl
      have e1 : a' = a := by
        rw [es] at es'
        cases es'
        rfl
      subst e1
      obtain ⟨b, us, rfl, hb, rb⟩ := (Pk.of (H := H1) p1).lst R1
      refine ⟨a', b, vs', us, rfl, rfl, ha', hb, by rw [← rp'.length, ← rb.length, ← lim_eq]; exact hz, ?_⟩
      obtain ⟨z, R2, st2⟩ := up (vs' ++ us) (rp'.append rb)
      exact q1 s z _ R2 st2
    | _ => exact q1.elim
  · exact q.elim
/-- x[k] = e, x a slot's own list -/
def sPutL (i : Nat) (k f : SE) : SS := fun r m => bindS r (f r m) fun d m => match r[i]? with
  | some (some (.lst l)) => bindS r (k r m) fun j m => match j with
    | .int j => match ixN l.length j with
      | some n => .nx (r.set i (some (.lst (l.set n d)))) m
      | none => .bad
    | _ => .bad
  | _ => .bad

/-! ### loops -/
/-- what a loop walks: at turn i it gives the i-th -/
inductive Yl (F : Hp) (io : List Addr) (H : Hp) : D → V → Hp → Prop
  | here {d : D} {v : V} : Rep F io d v → Yl F io H d v H
  | new {T : Addr} {ds : List D} {vs : List V} : H T = none → Reps F io ds vs → Yl F io H (.tup ds) (.ref T) (upd H T (.tup vs))
structure Serves (F : Hp) (io : List Addr) (J : It) (ds : List D) : Prop where
  go : ∀ F' H i, Sub F F' → Sub F' H → i < ds.length → J.go i H
  stop : ∀ F' H, Sub F F' → Sub F' H → J.stop ds.length H
  yld : ∀ F' io' H i d v H', Sub F F' → Pfx io io' → Sub F' H → ds[i]? = some d → J.yld i H v H' → Yl F' io' H d v H'
def PIt {pw : PWd} : PP pw (List D) It := fun x _ ds J => Serves x.F x.io J ds
abbrev DI (X : Cx) (w : Wi) (tg iter : Expr) (f : SL) : Prop := PI X tg iter (rd (PIt (pw := pwOf X)) w f)
theorem Serves.mono {F F' : Hp} {io io' : List Addr} {J : It} {ds : List D} (h : Serves F io J ds) (hF : Sub F F') (hi : Pfx io io') : Serves F' io' J ds :=
  ⟨fun G H i a b c => h.go G H i (hF.trans a) b c, fun G H a b => h.stop G H (hF.trans a) b, fun G jo H i d v H' a b c e k => h.yld G jo H i d v H' (hF.trans a) (hi.trans b) c e k⟩
theorem Serves.of_walk {F : Hp} {io : List Addr} {J : It} {ds : List D} {n : Nat} {G : Hp → Prop} {Y : Nat → Hp → V → Hp → Prop} (wk : Walk J n G Y) (hn : n = ds.length) (hG : ∀ F' H, Sub F F' → Sub F' H → G H)
    (hY : ∀ F' io' H i d v H', Sub F F' → Pfx io io' → Sub F' H → ds[i]? = some d → Y i H v H' → Yl F' io' H d v H') : Serves F io J ds :=
  ⟨fun F' H i a b c => wk.goes i H (by omega) (hG F' H a b), fun F' H a b => hn ▸ wk.stops H (hG F' H a b), fun F' io' H i d v H' a b c e k => hY F' io' H i d v H' a b c e (wk.yields i H v H' (by
    have := (List.getElem?_eq_some_iff.mp e).1
    omega) (hG F' H a c) k)⟩
/-- a thing that a loop gives is taken into the state -/
theorem Rel.yl {d : D} {v : V} (R : Rel x r m s H) (h : Yl x.F x.io H d v H') : ∃ y : Sx pw, Rel y r m s H' ∧ Rep y.F y.io d v ∧ StE x H y H' := by
  cases h with
  | here p => exact ⟨x, R, p, .refl⟩
  | new hT p => exact ⟨_, R.new hT, .tup upd_same (p.up R hT), .new R hT⟩
def forL (g : Gm) (b : SS) : List D → SS
  | [], r, m => .nx r m
  | d :: l, r, m => match g d r with
    | some r' => match b r' m with
      | .nx r m => forL g b l r m
      | .ct r m => forL g b l r m
      | .bk r m => .nx r m
      | .rt d m => .rt d m
      | .exc c v r m => .exc c v r m
      | .bad => .bad
    | none => .bad
def sFor (f : SL) (g : Gm) (b : SS) : SS := fun r m => bindS r (f r m) fun l m => forL g b l r m
theorem ds_for {ws : List Nat} {tg iter : Expr} {body : List Stmt} {f : SL} {g : Gm} {b : SS} (hp : PassesOwn (model X.prog X.w) X.A X.env X.xe) (hc : X.calm = true) (hi : DI X w tg iter f) (hg : DG X tg ws g) (hb : DSs X w body b)
    (hs : ∀ x, foldedSetIterable iter X.env x = pure x := by intro _; rfl) : DS X w (.For tg iter body [] pos) (sFor f g b) :=
  PS.imp (ps_for hp hc hi hg hb hs) fun E s0 H0 ⟨x0, r0, m0, R0, q0⟩ => by
    refine rd_bindS R0 q0 fun ds m1 J y1 H1 R1 sv st1 q1 => ?_
    -- the state before turn i: what is left to do answers
    refine ⟨fun i n s H => n = ds.length - i ∧ i ≤ ds.length ∧ ∃ (y : Sx (pwOf X)) (r : Env) (m : Sto), Rel y r m s H ∧ StS y1 H1 y H ∧ FinS w y1 H1 E (forL g b (ds.drop i) r m), ⟨ds.length, by simp, Nat.zero_le _, y1, r0, m1, R1, .refl, q1⟩, ?_⟩
    rintro i n s H ⟨rfl, hi, y, r, m, R, st, q⟩
    by_cases hlt : i < ds.length
    · refine .inr ⟨sv.go y.F H i st.st.F R.sub hlt, fun s' H' => ∃ y' r' m', Rel y' r' m' s' H' ∧ StS y1 H1 y' H' ∧ FinS w y1 H1 E (forL g b (ds.drop (i + 1)) r' m'), fun s' H' ⟨y', r', m', R', st', q'⟩ => ⟨ds.length - (i + 1), by omega, rfl, hlt, y', r', m', R', st', q'⟩, fun v H' hy => ?_⟩
      have hd : ds.drop i = ds[i] :: ds.drop (i + 1) := List.drop_eq_getElem_cons hlt
      rw [hd] at q
      obtain ⟨z, Rz, pz, stz⟩ := R.yl (sv.yld y.F y.io H i ds[i] v H' st.st.F st.st.io R.sub (List.getElem?_eq_getElem hlt) hy)
      have q : FinS w y1 H1 E (match g ds[i] r with
        | some r' => match b r' m with
          | .nx r m => forL g b (ds.drop (i + 1)) r m
          | .ct r m => forL g b (ds.drop (i + 1)) r m
          | .bk r m => .nx r m
          | .rt d m => .rt d m
          | .exc c v r m => .exc c v r m
          | .bad => .bad
        | none => .bad) := q
      have q' : FinS w y1 H1 E (match g ds[i] r with
        | some r' => (fun r' => match b r' m with
          | .nx r m => forL g b (ds.drop (i + 1)) r m
          | .ct r m => forL g b (ds.drop (i + 1)) r m
          | .bk r m => .nx r m
          | .rt d m => .rt d m
          | .exc c v r m => .exc c v r m
          | .bad => .bad) r'
        | none => .bad) := q
      refine rd_target (st.trans stz.toS) Rz pz q' fun r' s' u R2 st2 q2 _ => ?_
      refine ⟨u, r', m, R2, ?_⟩
      cases k : b r' m with
      | nx r3 m3 =>
        rw [k] at q2
        exact fun s3 t H3 R3 st3 => ⟨t, r3, m3, R3, st2.trans st3, q2⟩
      | ct r3 m3 =>
        rw [k] at q2
        exact fun s3 t H3 R3 st3 => ⟨t, r3, m3, R3, st2.trans st3, q2⟩
      | bk r3 m3 =>
        rw [k] at q2
        exact fun s3 t H3 R3 st3 => q2 s3 t H3 R3 (st2.trans st3)
      | rt d m3 =>
        rw [k] at q2
        exact fun v3 t H3 R3 p3 st3 => q2 v3 t H3 R3 p3 (st2.trans st3)
      | exc c v3 r3 m3 =>
        rw [k] at q2
        exact fun cls d3 s3 t H3 R3 p3 st3 => q2 cls d3 s3 t H3 R3 p3 (st2.trans st3)
      | bad =>
        rw [k] at q2
        exact q2.elim
    · have e : i = ds.length := by omega
      subst e
      refine .inl ⟨sv.stop y.F H st.st.F R.sub, ?_⟩
      rw [List.drop_length] at q
      exact q s y H R st
/-- while: so many turns at the most -/
def whileN (t : SB) (b : SS) : Nat → SS
  | 0, _, _ => .bad
  | n + 1, r, m => bindS r (t r m) fun c m => if c = true then (match b r m with
      | .nx r m => whileN t b n r m
      | .ct r m => whileN t b n r m
      | .bk r m => .nx r m
      | .rt d m => .rt d m
      | .exc c v r m => .exc c v r m
      | .bad => .bad) else .nx r m
theorem ds_while {c : Expr} {body : List Stmt} {t : SB} {b : SS} (n : Nat) (hp : PassesOwn (model X.prog X.w) X.A X.env X.xe) (hc : DT X w c t) (hb : DSs X w body b) : DS X w (.While c body [] pos) (whileN t b n) :=
  PS.imp (ps_while hp hc hb) fun E s0 H0 ⟨x0, r0, m0, R0, q0⟩ => by
    refine ⟨fun n s H => ∃ (y : Sx (pwOf X)) (r : Env) (m : Sto), Rel y r m s H ∧ FinS w y H E (whileN t b n r m), ⟨n, x0, r0, m0, R0, q0⟩, ?_⟩
    rintro n s H ⟨y, r, m, R, q⟩
    cases n with
    | zero => exact q.elim
    | succ n =>
      have q : FinS w y H E (bindS r (t r m) fun c m => if c = true then (match b r m with
        | .nx r m => whileN t b n r m
        | .ct r m => whileN t b n r m
        | .bk r m => .nx r m
        | .rt d m => .rt d m
        | .exc c v r m => .exc c v r m
        | .bad => .bad) else .nx r m) := q
      refine rd_bindS R q fun k m1 v z H1 R1 p1 st1 q1 => ?_
      cases p1
      cases k with
      | false =>
        rw [if_neg Bool.false_ne_true] at q1 ⊢
        exact FinS.here R1 q1
      | true =>
        rw [if_pos rfl] at q1 ⊢
        refine ⟨fun s' H' => ∃ (y : Sx (pwOf X)) (r : Env) (m : Sto), Rel y r m s' H' ∧ FinS w y H' E (whileN t b n r m), fun s' H' ⟨y', r', m', R', q'⟩ => ⟨n, Nat.lt_succ_self _, y', r', m', R', q'⟩, z, r, m1, R1, ?_⟩
        cases k : b r m1 with
        | nx r3 m3 =>
          rw [k] at q1
          exact fun s3 t3 H3 R3 st3 => ⟨t3, r3, m3, R3, FinS.shift st3 q1⟩
        | ct r3 m3 =>
          rw [k] at q1
          exact fun s3 t3 H3 R3 st3 => ⟨t3, r3, m3, R3, FinS.shift st3 q1⟩
        | bk r3 m3 =>
          rw [k] at q1
          exact q1
        | rt d m3 =>
          rw [k] at q1
          exact q1
        | exc c v3 r3 m3 =>
          rw [k] at q1
          exact q1
        | bad =>
          rw [k] at q1
          exact q1
end
end Dl
set_option autoImplicit true
/-! The data layer: what is walked: lists, tuples, texts, ranges, zip of two and of three, enumerate. -/
namespace Dl
open PySem PySem.Spec PyProof.Rows L2 TL

/-- what stands and can be walked -/
inductive SrcK where
  | lst (a : Addr) (xs : List V)
  | tup (a : Addr) (xs : List V)
  | txt (z : Str)
namespace SrcK
def val : SrcK → V
  | .lst a _ => .ref a
  | .tup a _ => .ref a
  | .txt z => .str z
def isIn (H : Hp) : SrcK → Prop
  | .lst a xs => H a = some (.lst xs)
  | .tup a xs => H a = some (.tup xs)
  | .txt _ => True
def n : SrcK → Nat
  | .lst _ xs => xs.length
  | .tup _ xs => xs.length
  | .txt z => z.cps.size
def at' (i : Nat) : SrcK → Option V
  | .lst _ xs => xs[i]?
  | .tup _ xs => xs[i]?
  | .txt z => z.cps[i]?.map fun c => .str ⟨#[c]⟩
def it (it : Addr) (i : Nat) (h : Heap) : SrcK → Prop
  | .lst a _ => h.IsListIter it a i
  | .tup a _ => h.IsTupleIter it a i
  | .txt z => ∃ t, h.IsStrIter it (strIterType z) z t i
end SrcK
theorem SrcK.it_keep {k : SrcK} {it : Addr} {i : Nat} {h h' : Heap} (st : k.it it i h) (q : ∀ o, h.get? it = some o → h'.get? it = some o) : k.it it i h' := by
  cases k with
  | lst a xs => exact Heap.IsListIter.at st fun o e => q o e
  | tup a xs => exact Heap.IsTupleIter.at st fun o e => q o e
  | txt z => obtain ⟨t, o, ho, r⟩ := st; exact ⟨t, o, q o ho, r⟩
theorem SrcK.it_obj {k : SrcK} {it : Addr} {i : Nat} {h : Heap} (st : k.it it i h) : ∃ o, h.get? it = some o ∧ ∀ v, o.data ≠ .cell v := by
  cases k with
  | lst a xs => obtain ⟨o, e, _, d⟩ := st; exact ⟨o, e, fun v q => by rw [d] at q; cases q⟩
  | tup a xs => obtain ⟨o, e, _, d⟩ := st; exact ⟨o, e, fun v q => by rw [d] at q; cases q⟩
  | txt z => obtain ⟨t, o, e, _, d⟩ := st; exact ⟨o, e, fun v q => by rw [d] at q; cases q⟩
theorem vals_getU : ∀ {xs : List V} {us : List Value} {i : Nat} {u : Value}, Vals xs us → us[i]? = some u → ∃ v, xs[i]? = some v ∧ RelV v u
  | _, _, _, _, .nil, e => by simp at e
  | _, _, 0, _, .cons r _, e => by simp at e; subst e; exact ⟨_, rfl, r⟩
  | _, _, i + 1, u, .cons _ t, e => by
    obtain ⟨v, h1, h2⟩ := vals_getU (i := i) (u := u) t (by simpa using e)
    exact ⟨v, by simpa using h1, h2⟩
section
variable {X : Cx} {pins : List (Addr × Obj)} {σ : L2.St} {H : Hp} {s : Shared}
structure SrcDraws (X : Cx) (k : SrcK) (H : Hp) (h : Heap) (it : Addr) (i : Nat) (A : Around) : Prop where
  ex : ∃ (sf : List Addr) (P : Nat → Value → Prop) (St : Nat → Heap → Prop), Draws X.prog X.w A it (it :: sf) k.n P St ∧ St i h ∧ (∀ j h', St j h' → k.it it j h') ∧ (∀ j u, P j u → ∃ v, k.at' j = some v ∧ RelV v u) ∧ ∀ b ∈ sf, H b ≠ none
theorem SrcK.draws (k : SrcK) (I : Inv X pins σ H s) {A : Around} (hh : A.handled = none) (hin : k.isIn H) {it : Addr} {i : Nat} (hit : H it = none) (st : k.it it i s.heap) : SrcDraws X k H s.heap it i A := by
  cases k with
  | lst a xs =>
    have hin : H a = some (.lst xs) := hin
    obtain ⟨its, rv, p, hz⟩ := I.list (.of hin)
    have hne : a ≠ it := fun e => by rw [e, hit] at hin; cases hin
    have hl : its.toArray.size = xs.length := by rw [List.size_toArray, rv.length]
    refine ⟨[a], _, _, hl ▸ Draws.list hh it a hne its.toArray, ⟨st, p.isList⟩, fun j h' q => q.1, fun j u q => ?_, fun b hb => ?_⟩
    · have q : its.toArray[j]? = some u := q
      have q : its[j]? = some u := by simpa using q
      exact vals_getU rv q
    · have e : b = a := by simpa using hb
      rw [e, hin]
      exact fun z => by cases z
  | tup a xs =>
    have hin : H a = some (.tup xs) := hin
    obtain ⟨its, rv, p, hz⟩ := I.tuple (.of hin)
    have hne : a ≠ it := fun e => by rw [e, hit] at hin; cases hin
    have hl : its.toArray.size = xs.length := by rw [List.size_toArray, rv.length]
    refine ⟨[a], _, _, hl ▸ Draws.tuple hh it a hne its.toArray, ⟨st, p⟩, fun j h' q => q.1, fun j u q => ?_, fun b hb => ?_⟩
    · have q : its.toArray[j]? = some u := q
      have q : its[j]? = some u := by simpa using q
      exact vals_getU rv q
    · have e : b = a := by simpa using hb
      rw [e, hin]
      exact fun z => by cases z
  | txt z =>
    obtain ⟨t, st⟩ := st
    refine ⟨[], _, _, Draws.text hh it z t, st, fun j h' q => ⟨t, q⟩, fun j u q => ?_, fun b hb => by cases hb⟩
    obtain ⟨c, tk, e, rfl⟩ := q
    exact ⟨.str ⟨#[c]⟩, by simp [SrcK.at', e], ⟨tk, rfl⟩⟩
/-- an item of an iterator that gives new tuples -/
theorem item_new {tg : Expr} {I0 : Addr} {fp ffp wr : List Addr} {n i : Nat} {Y : Nat → Heap → Value → Heap → Prop} {S : Nat → Heap → Prop} {tn : Heap → Prop} {K : V → Hp → Prop} {E : Value → Shared → Prop} (G : GoesN X.prog X.w X.A tg I0 ffp wr n Y S) (hi : i < n) (st : S i s.heap)
    (I : Inv X pins σ H s) (hf : ∀ b ∈ fp, FpOk X pins H b) (hl : ∀ b ∈ fp, b < s.heap.objs.size) (hw : ∀ b ∈ wr, b ∈ fp) (hst : ∀ h', S (i + 1) h' → tn h')
    (hY : ∀ v h', Y i s.heap v h' → ∃ (T : Addr) (us : List Value) (vs : List V), v = .ref T ∧ s.heap.objs.size ≤ T ∧ Vals vs us ∧ vs.length ≤ sizeLine ∧ IsTup h' T us.toArray ∧ ∀ (hT : H T = none), K (.ref T) (upd H T (.tup vs))) :
    wpAny (model X.prog X.w) X.A (pyNext (.ref I0)) (fun r s1 => ∃ u, r = some u ∧
      wpAny (model X.prog X.w) X.A (letOwnedTupleGo tg (.ref I0) u) (fun _ s2 => ∃ x H', Inv X pins σ H' s2 ∧ RelV x u ∧ K x H' ∧ tn s2.heap ∧ ∀ b ∈ fp, H' b = none) E s1) E s := by
  refine G.goes i s (fun v s2 => ∃ x H', Inv X pins σ H' s2 ∧ RelV x v ∧ K x H' ∧ tn s2.heap ∧ ∀ b ∈ fp, H' b = none) E hi st fun v h' tk hy st' hk htk => ?_
  obtain ⟨T, us, vs, rfl, hT, rv, hz, p, k⟩ := hY v h' hy
  have hn : H T = none := I.hok.fresh hT
  have new : ObjOk X.prog X.w (upd H T (.tup vs)) h' T (.tup vs) := ⟨hz, us, rv, p⟩
  refine ⟨.ref T, _, I.turnedNew (t' := tk) (ch := fp) (fun b o hb e => hk b o (fun z => hb (hw b z)) e) hf hT new, rfl, k hn, hst h' st', fun b hb => ?_⟩
  rw [upd_ne (Nat.ne_of_lt (Nat.lt_of_lt_of_le (hl b hb) hT))]
  exact (hf b hb).1
theorem done_new {tg : Expr} {I0 : Addr} {fp ffp wr : List Addr} {n : Nat} {Y : Nat → Heap → Value → Heap → Prop} {S : Nat → Heap → Prop} {E : Value → Shared → Prop} (G : GoesN X.prog X.w X.A tg I0 ffp wr n Y S) (st : S n s.heap)
    (I : Inv X pins σ H s) (hf : ∀ b ∈ fp, FpOk X pins H b) (hw : ∀ b ∈ wr, b ∈ fp) :
    wpAny (model X.prog X.w) X.A (pyNext (.ref I0)) (fun r s1 => r = none ∧ Inv X pins σ H s1) E s :=
  G.stops s (fun s1 => Inv X pins σ H s1) E st fun h' tk hk htk => I.turnedL (t' := tk) (ch := fp) (fun b o hb e => hk b o (fun z => hb (hw b z)) e) hf
end

/-! ### zip of two -/
def ItZ2 (k1 k2 : SrcK) : It :=
  ⟨fun i H => i < min k1.n k2.n ∧ k1.isIn H ∧ k2.isIn H, fun i H v H' => ∃ T x y, v = .ref T ∧ H T = none ∧ H' = upd H T (.tup [x, y]) ∧ k1.at' i = some x ∧ k2.at' i = some y, fun i H => i = min k1.n k2.n ∧ k1.isIn H ∧ k2.isIn H⟩
theorem turn_zip2 {P : Program} {w : World} {K : PySem.W.Frag} {elts : List Expr} {kk : Nat} {tpos : Pos} {z TI TO i1 i2 : Addr} {k1 k2 : SrcK} (h1 : TI ≠ z) (h2 : TO ≠ z) (h3 : TI ≠ TO) (h4 : TI ≠ i1) (h5 : TI ≠ i2) (h6 : z ≠ i1) (h7 : TO ≠ i1) (h8 : z ≠ i2) (h9 : TO ≠ i2) (h10 : i1 ≠ i2) :
    Turn P w K (.Tuple elts kk tpos) (ItZ2 k1 k2) [z, TI, TO, i1, i2] z (fun i h => IsZip h z TI TO .none ∧ IsTupOf2 h TI (.ref i1) (.ref i2) ∧ (∃ x y, IsTupOf2 h TO x y) ∧ k1.it i1 i h ∧ k2.it i2 i h) := by
  have sep : ∀ {X : Cx} {pins : List (Addr × Obj)} {H : Hp} {sf1 sf2 : List Addr}, (∀ b ∈ [z, TI, TO, i1, i2], FpOk X pins H b) → (∀ b ∈ sf1, H b ≠ none) → (∀ b ∈ sf2, H b ≠ none) → ZipSep2 z TI TO i1 i2 (i1 :: sf1) (i2 :: sf2) := fun {X pins H sf1 sf2} hf n1 n2 => by
    have nin : ∀ {b j : Addr} {sf : List Addr}, b ∈ [z, TI, TO, i1, i2] → (∀ c ∈ sf, H c ≠ none) → b ≠ j → b ∉ j :: sf := fun {b j sf} hb hn hj hm => by
      rcases List.mem_cons.mp hm with q | q
      · exact hj q
      · exact hn b q (hf b hb).1
    exact { TIz := h1, TOz := h2, TITO := h3, TIi1 := h4, mem1 := List.mem_cons_self .., zf1 := nin (by simp) n1 h6, Tf1 := nin (by simp) n1 h7, TIi2 := h5, mem2 := List.mem_cons_self .., zf2 := nin (by simp) n2 h8, Tf2 := nin (by simp) n2 h9, sep1_2 := nin (by simp) n2 h10, sep2_1 := nin (by simp) n1 (Ne.symm h10) }
  refine ⟨by simp, fun i h st c hc => ?_, fun i h h' st k => ?_, ?_, ?_, fun A i s Q E st h => wpAny_pyIter_zip st.1 h⟩
  · obtain ⟨hz, hTI, ⟨x, y, hTO⟩, g1, g2⟩ := st
    have e' : c = z ∨ c = TI ∨ c = TO ∨ c = i1 ∨ c = i2 := by simpa using hc
    rcases e' with q | q | q | q | q
    · rw [q]; exact ⟨_, hz, fun v q => nomatch q⟩
    · rw [q]; exact ⟨_, hTI, fun v q => nomatch q⟩
    · rw [q]; exact ⟨_, hTO, fun v q => nomatch q⟩
    · rw [q]; exact (SrcK.it_obj g1)
    · rw [q]; exact (SrcK.it_obj g2)
  · obtain ⟨hz, hTI, ⟨x, y, hTO⟩, g1, g2⟩ := st
    exact ⟨k z (by simp) _ hz, k TI (by simp) _ hTI, ⟨x, y, k TO (by simp) _ hTO⟩, (SrcK.it_keep g1) fun o q => k i1 (by simp) o q, (SrcK.it_keep g2) fun o q => k i2 (by simp) o q⟩
  · intro X hP hw hK hc i pins s σ H E I hf st hg
    subst hP hw hK
    obtain ⟨hz, hTI, hTO, g1, g2⟩ := st
    obtain ⟨hi, in1, in2⟩ := hg
    have hh : X.A.in1.handled = none := I.ok.hd hc
    obtain ⟨sf1, P1, S1, D1, s1, c1, e1, n1⟩ := (k1.draws I hh in1 (hf i1 (by simp)).1 g1).ex
    obtain ⟨sf2, P2, S2, D2, s2, c2, e2, n2⟩ := (k2.draws I hh in2 (hf i2 (by simp)).1 g2).ex
    refine item_new (K := fun x H' => ∃ T a b, x = .ref T ∧ H T = none ∧ H' = upd H T (.tup [a, b]) ∧ k1.at' i = some a ∧ k2.at' i = some b)
      (tn := fun h => IsZip h z TI TO .none ∧ IsTupOf2 h TI (.ref i1) (.ref i2) ∧ (∃ x y, IsTupOf2 h TO x y) ∧ k1.it i1 (i + 1) h ∧ k2.it i2 (i + 1) h) (GoesN.zip2 (sep hf n1 n2) D1 D2) hi ⟨hz, hTI, hTO, s1, s2⟩ I hf (fun b hb => ?_) (fun b hb => ?_) (fun h' q => ⟨q.1, q.2.1, q.2.2.1, c1 _ _ q.2.2.2.1, c2 _ _ q.2.2.2.2⟩) fun v h' ⟨T, x, y, ev, hT, px, py, p⟩ => ?_
    · have q : b = z ∨ b = TI ∨ b = TO ∨ b = i1 ∨ b = i2 := by simpa using hb
      obtain ⟨x, y, hTO⟩ := hTO
      rcases q with q | q | q | q | q
      · rw [q]; exact Heap.lt_size hz
      · rw [q]; exact Heap.lt_size hTI
      · rw [q]; exact Heap.lt_size hTO
      · rw [q]; obtain ⟨o, e, _⟩ := (SrcK.it_obj g1); exact Heap.lt_size e
      · rw [q]; obtain ⟨o, e, _⟩ := (SrcK.it_obj g2); exact Heap.lt_size e
    · have q : b = z ∨ b = TO ∨ b = i1 ∨ b = i2 := by simpa using hb
      rcases q with q | q | q | q <;> simp [q]
    · obtain ⟨a, ea, ra⟩ := e1 i x px
      obtain ⟨b, eb, rb⟩ := e2 i y py
      exact ⟨T, [x, y], [a, b], ev, hT, .cons ra (.cons rb .nil), by show 2 ≤ sizeLine; decide, p, fun hn => ⟨T, a, b, rfl, hn, rfl, ea, eb⟩⟩
  · intro X hP hw hK hc i pins s σ H E I hf st hg
    subst hP hw hK
    obtain ⟨hz, hTI, hTO, g1, g2⟩ := st
    obtain ⟨hi, in1, in2⟩ := hg
    subst hi
    have hh : X.A.in1.handled = none := I.ok.hd hc
    obtain ⟨sf1, P1, S1, D1, s1, c1, e1, n1⟩ := (k1.draws I hh in1 (hf i1 (by simp)).1 g1).ex
    obtain ⟨sf2, P2, S2, D2, s2, c2, e2, n2⟩ := (k2.draws I hh in2 (hf i2 (by simp)).1 g2).ex
    refine done_new (fp := [z, TI, TO, i1, i2]) (GoesN.zip2 (elts := elts) (x1 := kk) (pos := tpos) (sep hf n1 n2) D1 D2) ⟨hz, hTI, hTO, s1, s2⟩ I hf (fun b hb => ?_)
    have q : b = z ∨ b = TO ∨ b = i1 ∨ b = i2 := by simpa using hb
    rcases q with q | q | q | q <;> simp [q]

/-! ### zip of three -/
def ItZ3 (k1 k2 k3 : SrcK) : It :=
  ⟨fun i H => i < min (min k1.n k2.n) k3.n ∧ k1.isIn H ∧ k2.isIn H ∧ k3.isIn H, fun i H v H' => ∃ T x y u, v = .ref T ∧ H T = none ∧ H' = upd H T (.tup [x, y, u]) ∧ k1.at' i = some x ∧ k2.at' i = some y ∧ k3.at' i = some u, fun i H => i = min (min k1.n k2.n) k3.n ∧ k1.isIn H ∧ k2.isIn H ∧ k3.isIn H⟩
theorem turn_zip3 {P : Program} {w : World} {K : PySem.W.Frag} {elts : List Expr} {kk : Nat} {tpos : Pos} {z TI TO i1 i2 i3 : Addr} {k1 k2 k3 : SrcK} (h1 : TI ≠ z) (h2 : TO ≠ z) (h3 : TI ≠ TO) (h4 : TI ≠ i1) (h5 : TI ≠ i2) (h5' : TI ≠ i3) (h6 : z ≠ i1) (h7 : TO ≠ i1) (h8 : z ≠ i2) (h9 : TO ≠ i2) (h8' : z ≠ i3) (h9' : TO ≠ i3) (h10 : i1 ≠ i2) (h11 : i1 ≠ i3) (h12 : i2 ≠ i3) :
    Turn P w K (.Tuple elts kk tpos) (ItZ3 k1 k2 k3) [z, TI, TO, i1, i2, i3] z (fun i h => IsZip h z TI TO .none ∧ IsTupOf3 h TI (.ref i1) (.ref i2) (.ref i3) ∧ (∃ x y u, IsTupOf3 h TO x y u) ∧ k1.it i1 i h ∧ k2.it i2 i h ∧ k3.it i3 i h) := by
  have sep : ∀ {X : Cx} {pins : List (Addr × Obj)} {H : Hp} {sf1 sf2 sf3 : List Addr}, (∀ b ∈ [z, TI, TO, i1, i2, i3], FpOk X pins H b) → (∀ b ∈ sf1, H b ≠ none) → (∀ b ∈ sf2, H b ≠ none) → (∀ b ∈ sf3, H b ≠ none) → ZipSep3 z TI TO i1 i2 i3 (i1 :: sf1) (i2 :: sf2) (i3 :: sf3) := fun {X pins H sf1 sf2 sf3} hf n1 n2 n3 => by
    have nin : ∀ {b j : Addr} {sf : List Addr}, b ∈ [z, TI, TO, i1, i2, i3] → (∀ c ∈ sf, H c ≠ none) → b ≠ j → b ∉ j :: sf := fun {b j sf} hb hn hj hm => by
      rcases List.mem_cons.mp hm with q | q
      · exact hj q
      · exact hn b q (hf b hb).1
    exact { TIz := h1, TOz := h2, TITO := h3, TIi1 := h4, mem1 := List.mem_cons_self .., zf1 := nin (by simp) n1 h6, Tf1 := nin (by simp) n1 h7, TIi2 := h5, mem2 := List.mem_cons_self .., zf2 := nin (by simp) n2 h8, Tf2 := nin (by simp) n2 h9, TIi3 := h5', mem3 := List.mem_cons_self .., zf3 := nin (by simp) n3 h8', Tf3 := nin (by simp) n3 h9', sep1_2 := nin (by simp) n2 h10, sep1_3 := nin (by simp) n3 h11, sep2_1 := nin (by simp) n1 (Ne.symm h10), sep2_3 := nin (by simp) n3 h12, sep3_1 := nin (by simp) n1 (Ne.symm h11), sep3_2 := nin (by simp) n2 (Ne.symm h12) }
  refine ⟨by simp, fun i h st c hc => ?_, fun i h h' st k => ?_, ?_, ?_, fun A i s Q E st h => wpAny_pyIter_zip st.1 h⟩
  · obtain ⟨hz, hTI, ⟨x, y, u, hTO⟩, g1, g2, g3⟩ := st
    have e' : c = z ∨ c = TI ∨ c = TO ∨ c = i1 ∨ c = i2 ∨ c = i3 := by simpa using hc
    rcases e' with q | q | q | q | q | q
    · rw [q]; exact ⟨_, hz, fun v q => nomatch q⟩
    · rw [q]; exact ⟨_, hTI, fun v q => nomatch q⟩
    · rw [q]; exact ⟨_, hTO, fun v q => nomatch q⟩
    · rw [q]; exact (SrcK.it_obj g1)
    · rw [q]; exact (SrcK.it_obj g2)
    · rw [q]; exact (SrcK.it_obj g3)
  · obtain ⟨hz, hTI, ⟨x, y, u, hTO⟩, g1, g2, g3⟩ := st
    exact ⟨k z (by simp) _ hz, k TI (by simp) _ hTI, ⟨x, y, u, k TO (by simp) _ hTO⟩, (SrcK.it_keep g1) fun o q => k i1 (by simp) o q, (SrcK.it_keep g2) fun o q => k i2 (by simp) o q, (SrcK.it_keep g3) fun o q => k i3 (by simp) o q⟩
  · intro X hP hw hK hc i pins s σ H E I hf st hg
    subst hP hw hK
    obtain ⟨hz, hTI, hTO, g1, g2, g3⟩ := st
    obtain ⟨hi, in1, in2, in3⟩ := hg
    have hh : X.A.in1.handled = none := I.ok.hd hc
    obtain ⟨sf1, P1, S1, D1, s1, c1, e1, n1⟩ := (k1.draws I hh in1 (hf i1 (by simp)).1 g1).ex
    obtain ⟨sf2, P2, S2, D2, s2, c2, e2, n2⟩ := (k2.draws I hh in2 (hf i2 (by simp)).1 g2).ex
    obtain ⟨sf3, P3, S3, D3, s3, c3, e3, n3⟩ := (k3.draws I hh in3 (hf i3 (by simp)).1 g3).ex
    refine item_new (K := fun x H' => ∃ T a b c, x = .ref T ∧ H T = none ∧ H' = upd H T (.tup [a, b, c]) ∧ k1.at' i = some a ∧ k2.at' i = some b ∧ k3.at' i = some c)
      (tn := fun h => IsZip h z TI TO .none ∧ IsTupOf3 h TI (.ref i1) (.ref i2) (.ref i3) ∧ (∃ x y u, IsTupOf3 h TO x y u) ∧ k1.it i1 (i + 1) h ∧ k2.it i2 (i + 1) h ∧ k3.it i3 (i + 1) h) (GoesN.zip3 (sep hf n1 n2 n3) D1 D2 D3) hi ⟨hz, hTI, hTO, s1, s2, s3⟩ I hf (fun b hb => ?_) (fun b hb => ?_) (fun h' q => ⟨q.1, q.2.1, q.2.2.1, c1 _ _ q.2.2.2.1, c2 _ _ q.2.2.2.2.1, c3 _ _ q.2.2.2.2.2⟩) fun v h' ⟨T, x, y, u, ev, hT, px, py, pu, p⟩ => ?_
    · have q : b = z ∨ b = TI ∨ b = TO ∨ b = i1 ∨ b = i2 ∨ b = i3 := by simpa using hb
      obtain ⟨x, y, u, hTO⟩ := hTO
      rcases q with q | q | q | q | q | q
      · rw [q]; exact Heap.lt_size hz
      · rw [q]; exact Heap.lt_size hTI
      · rw [q]; exact Heap.lt_size hTO
      · rw [q]; obtain ⟨o, e, _⟩ := (SrcK.it_obj g1); exact Heap.lt_size e
      · rw [q]; obtain ⟨o, e, _⟩ := (SrcK.it_obj g2); exact Heap.lt_size e
      · rw [q]; obtain ⟨o, e, _⟩ := (SrcK.it_obj g3); exact Heap.lt_size e
    · have q : b = z ∨ b = TO ∨ b = i1 ∨ b = i2 ∨ b = i3 := by simpa using hb
      rcases q with q | q | q | q | q <;> simp [q]
    · obtain ⟨a, ea, ra⟩ := e1 i x px
      obtain ⟨b, eb, rb⟩ := e2 i y py
      obtain ⟨c, ec, rc⟩ := e3 i u pu
      exact ⟨T, [x, y, u], [a, b, c], ev, hT, .cons ra (.cons rb (.cons rc .nil)), by show 3 ≤ sizeLine; decide, p, fun hn => ⟨T, a, b, c, rfl, hn, rfl, ea, eb, ec⟩⟩
  · intro X hP hw hK hc i pins s σ H E I hf st hg
    subst hP hw hK
    obtain ⟨hz, hTI, hTO, g1, g2, g3⟩ := st
    obtain ⟨hi, in1, in2, in3⟩ := hg
    subst hi
    have hh : X.A.in1.handled = none := I.ok.hd hc
    obtain ⟨sf1, P1, S1, D1, s1, c1, e1, n1⟩ := (k1.draws I hh in1 (hf i1 (by simp)).1 g1).ex
    obtain ⟨sf2, P2, S2, D2, s2, c2, e2, n2⟩ := (k2.draws I hh in2 (hf i2 (by simp)).1 g2).ex
    obtain ⟨sf3, P3, S3, D3, s3, c3, e3, n3⟩ := (k3.draws I hh in3 (hf i3 (by simp)).1 g3).ex
    refine done_new (fp := [z, TI, TO, i1, i2, i3]) (GoesN.zip3 (elts := elts) (x1 := kk) (pos := tpos) (sep hf n1 n2 n3) D1 D2 D3) ⟨hz, hTI, hTO, s1, s2, s3⟩ I hf (fun b hb => ?_)
    have q : b = z ∨ b = TO ∨ b = i1 ∨ b = i2 ∨ b = i3 := by simpa using hb
    rcases q with q | q | q | q | q <;> simp [q]

/-! ### enumerate -/
def ItE (k : SrcK) : It :=
  ⟨fun i H => i < k.n ∧ k.isIn H, fun i H v H' => ∃ T x, v = .ref T ∧ H T = none ∧ H' = upd H T (.tup [.int (i : Nat), x]) ∧ k.at' i = some x, fun i H => i = k.n ∧ k.isIn H⟩
theorem turn_en {P : Program} {w : World} {K : PySem.W.Frag} {elts : List Expr} {kk : Nat} {tpos : Pos} {e it : Addr} {k : SrcK} (hne : e ≠ it) :
    Turn P w K (.Tuple elts kk tpos) (ItE k) [e, it] e (fun i h => (∃ old, IsEnum h e it (0 + (i : Int)) old) ∧ k.it it i h) := by
  have nin : ∀ {X : Cx} {pins : List (Addr × Obj)} {H : Hp} {sf : List Addr}, (∀ b ∈ [e, it], FpOk X pins H b) → (∀ b ∈ sf, H b ≠ none) → e ∉ it :: sf := fun {X pins H sf} hf n1 hm => by
    rcases List.mem_cons.mp hm with q | q
    · exact hne q
    · exact n1 e q (hf e (by simp)).1
  refine ⟨by simp, fun i h st c hc => ?_, fun i h h' st k' => ?_, ?_, ?_, fun A i s Q E st h => let ⟨⟨_, he⟩, _⟩ := st; wpAny_pyIter_enum he h⟩
  · obtain ⟨⟨old, he⟩, g⟩ := st
    have e' : c = e ∨ c = it := by simpa using hc
    rcases e' with q | q
    · rw [q]; exact ⟨_, he, fun v q => nomatch q⟩
    · rw [q]; exact (SrcK.it_obj g)
  · obtain ⟨⟨old, he⟩, g⟩ := st
    exact ⟨⟨old, k' e (by simp) _ he⟩, (SrcK.it_keep g) fun o q => k' it (by simp) o q⟩
  · intro X hP hw hK hc i pins s σ H E I hf st hg
    subst hP hw hK
    obtain ⟨⟨old, he⟩, g⟩ := st
    obtain ⟨hi, in1⟩ := hg
    have hh : X.A.in1.handled = none := I.ok.hd hc
    obtain ⟨sf1, P1, S1, D1, s1, c1, e1, n1⟩ := (k.draws I hh in1 (hf it (by simp)).1 g).ex
    refine item_new (K := fun x H' => ∃ T a, x = .ref T ∧ H T = none ∧ H' = upd H T (.tup [.int (i : Nat), a]) ∧ k.at' i = some a)
      (tn := fun h => (∃ old, IsEnum h e it (0 + ((i + 1 : Nat) : Int)) old) ∧ k.it it (i + 1) h) (GoesN.enumFrom 0 D1 e hne (nin hf n1) (List.mem_cons_self ..)) hi ⟨⟨old, he⟩, s1⟩ I hf (fun b hb => ?_) (fun b hb => hb) (fun h' q => ⟨q.1, c1 _ _ q.2⟩) fun v h' ⟨T, t, x, ev, hT, px, p⟩ => ?_
    · have q : b = e ∨ b = it := by simpa using hb
      rcases q with q | q
      · rw [q]; exact Heap.lt_size he
      · rw [q]; obtain ⟨o, e, _⟩ := (SrcK.it_obj g); exact Heap.lt_size e
    · obtain ⟨a, ea, ra⟩ := e1 i x px
      rw [Int.zero_add] at p
      exact ⟨T, [.int (i : Nat) t, x], [.int (i : Nat), a], ev, hT, .cons ⟨t, rfl⟩ (.cons ra .nil), by show 2 ≤ sizeLine; decide, p, fun hn => ⟨T, a, rfl, hn, rfl, ea⟩⟩
  · intro X hP hw hK hc i pins s σ H E I hf st hg
    subst hP hw hK
    obtain ⟨⟨old, he⟩, g⟩ := st
    obtain ⟨hi, in1⟩ := hg
    subst hi
    have hh : X.A.in1.handled = none := I.ok.hd hc
    obtain ⟨sf1, P1, S1, D1, s1, c1, e1, n1⟩ := (k.draws I hh in1 (hf it (by simp)).1 g).ex
    exact done_new (fp := [e, it]) (GoesN.enumFrom (elts := elts) (x1 := kk) (pos := tpos) 0 D1 e hne (nin hf n1) (List.mem_cons_self ..)) ⟨⟨old, he⟩, s1⟩ I hf (fun b hb => hb)
end Dl
set_option autoImplicit true
/-! The data layer: the calls that make what is walked. -/
namespace Dl
open PySem PySem.Spec PyProof.Rows L2 TL

set_option maxHeartbeats 1000000 in
theorem meets_enumerate_newB1 {v : Value} {o : Obj} {H : Heap → Prop} (B : Begins v o H) :
    Meets (Builtin.«enumerate.__new__» ⟨[.type "enumerate", v], []⟩) (fun _ R s => H s.heap ∧
      R (.ok (.ret (.ref (s.heap.push o).objs.size))) { s with heap := (s.heap.push o).push { cls := .type "enumerate", data := .fields #[.none, .bool false, .ref s.heap.objs.size, rawInt 0, .none, .none] } }) :=
  .of_wp fun prog w A R s h => by
    obtain ⟨hp, g, d, tk, os⟩ := s; obtain ⟨h1, h⟩ := h
    have hsub := sub_enumerate
    have q1 : ∀ {A' : Around} {E : Value → Shared → Prop} {Q : Value → Shared → Prop}, Q (.ref hp.objs.size) ⟨hp.push o, g, d, tk, os⟩ → wpAny (model prog w) A' (pyIter v) Q E ⟨hp, g, d, tk, os⟩ :=
      fun q => B.iter prog w _ _ ⟨hp, g, d, tk, os⟩ _ h1 q
    wp_walk using q1
    refine wpAny_stack_any fun st => wpAny_pure ?_
    split
    · rename_i c _ _ _ _ _
      cases (c == Value.type "enumerate")
      · wp_walk using q1
        exact ⟨_, rfl, h⟩
      · wp_walk using q1
        exact ⟨_, rfl, h⟩
    · wp_walk using q1
      exact ⟨_, rfl, h⟩
section
variable {prog : Program} {w : World} {A : Around} {E : Value → Shared → Prop} {s : Shared}
theorem enum_begins1 {v : Value} {o : Obj} {H : Heap → Prop} {Q : Value → Shared → Prop} (B : Begins v o H) (h1 : H s.heap)
    (h : ∀ h', IsEnum h' (s.heap.objs.size + 1) s.heap.objs.size 0 .none → h'.get? s.heap.objs.size = some o → h'.objs.size = s.heap.objs.size + 2 →
      (∀ b o, s.heap.get? b = some o → h'.get? b = some o) → Q (.ref (s.heap.objs.size + 1)) { s with heap := h' }) :
    wpAny (model prog w) A (call (.type "enumerate") [v]) Q E s := by
  refine callType_new F.called_enumerate (by decide) (F.typeCall_enumerate_1 _) (F.newCall_enumerate_1 _) (fun obj => F.args_object_init_2 obj _) F.entry_enumerate_new
    (meets_enumerate_newB1 B) ⟨h1, ?_⟩
  have hz : (s.heap.push o).objs.size = s.heap.objs.size + 1 := Heap.size_push ..
  show _ ∧ _
  rw [hz]
  have he : IsEnum ((s.heap.push o).push { cls := .type "enumerate", data := .fields #[.none, .bool false, .ref s.heap.objs.size, rawInt 0, .none, .none] }) (s.heap.objs.size + 1) s.heap.objs.size 0 .none := by
    have := Heap.get?_push_size (s.heap.push o) (o := { cls := .type "enumerate", data := .fields #[.none, .bool false, .ref s.heap.objs.size, rawInt 0, .none, .none] }) rfl
    rw [hz] at this; exact this
  refine ⟨⟨_, he, rfl⟩, h _ he (Heap.get?_push_of_some _ (Heap.get?_push_size _ B.free)) (by rw [Heap.size_push, hz]) fun b o x => Heap.get?_push_of_some _ (Heap.get?_push_of_some _ x)⟩
end
/-- how a source begins -/
theorem SrcK.begins {X : Cx} {pins : List (Addr × Obj)} {σ : L2.St} {H : Hp} {s : Shared} (k : SrcK) (I : Inv X pins σ H s) (hin : k.isIn H) {u : Value} (r : RelV k.val u) :
    ∃ o G, Begins u o G ∧ G s.heap ∧ ∀ h' it, h'.get? it = some o → k.it it 0 h' := by
  cases k with
  | lst a xs =>
    have hin : H a = some (.lst xs) := hin
    obtain rfl : u = .ref a := r
    obtain ⟨its, rv, p, hz⟩ := I.list (.of hin)
    exact ⟨_, _, begins_list a its.toArray, p.isList, fun h' it e => ⟨_, e, rfl, rfl⟩⟩
  | tup a xs =>
    have hin : H a = some (.tup xs) := hin
    obtain rfl : u = .ref a := r
    obtain ⟨its, rv, p, hz⟩ := I.tuple (.of hin)
    exact ⟨_, _, begins_tuple a its.toArray, p, fun h' it e => ⟨_, e, rfl, rfl⟩⟩
  | txt z =>
    obtain ⟨t, rfl⟩ := r
    exact ⟨_, _, begins_text z t, trivial, fun h' it e => ⟨t, _, e, rfl, rfl⟩⟩
def iZ2 (ta : TA) : TI := fun σ H R => ta σ H fun vs H1 => ∃ k1 k2 : SrcK, vs = [k1.val, k2.val] ∧ k1.isIn H1 ∧ k2.isIn H1 ∧ R (ItZ2 k1 k2) H1
def iZ3 (ta : TA) : TI := fun σ H R => ta σ H fun vs H1 => ∃ k1 k2 k3 : SrcK, vs = [k1.val, k2.val, k3.val] ∧ k1.isIn H1 ∧ k2.isIn H1 ∧ k3.isIn H1 ∧ R (ItZ3 k1 k2 k3) H1
def iEn (ta : TA) : TI := fun σ H R => ta σ H fun vs H1 => ∃ k1 : SrcK, vs = [k1.val] ∧ k1.isIn H1 ∧ R (ItE k1) H1
section
variable {X : Cx} {e e2 e3 : Expr} {ta : TA} {p pos tpos : Pos} {elts : List Expr} {kk : Nat}
theorem pi_z2 (hg : Gl X "zip") (hm : X.mg "zip" = none) (ha : PA X [e, e2] ta)
    (hs : starEach [e, e2] X.env = (false, eval e X.env) :: starEach [e2] X.env := by rfl) (hpl : (backTo pos (starEach [e2] X.env)).any (·.1) = false := by rfl) :
    PI X (.Tuple elts kk tpos) (.Call (.Name "zip" p) [e, e2] [] pos) (iZ2 ta) := by
  refine ⟨fun pins s σ H R I h => ?_⟩
  refine Call_ (ld_blt I hg hm PyProof.Rows.boot_zip (PyProof.Rows.callWith_type1 (thn (ha.run pos pins s σ H _ I h) fun us s1 ⟨vs, H1, I1, r1, q1⟩ => ?_) hs hpl))
  obtain ⟨k1, k2, ex, in1, in2, q⟩ := q1
  subst ex
  cases r1 with
  | cons r rr =>
    cases rr with
    | cons r' rr =>
      cases rr
      obtain ⟨o1, G1, B1, g1, j1⟩ := k1.begins I1 in1 r
      obtain ⟨o2, G2, B2, g2, j2⟩ := k2.begins I1 in2 r'
      refine zip_begins2 B1 B2 g1 g2 fun h' hz hTI hTO h1 h2 hsz hk => wpAny_pyIter_zip hz ?_
      have I2 : Inv X pins σ H1 { s1 with heap := h' } := I1.kept (t' := s1.toks) hk
      have ne : ∀ i j : Nat, i ≠ j → s1.heap.objs.size + i ≠ s1.heap.objs.size + j := fun i j n e => n (Nat.add_left_cancel e)
      refine ⟨s1.heap.objs.size + 4, [s1.heap.objs.size + 4, s1.heap.objs.size + 2, s1.heap.objs.size + 3, s1.heap.objs.size, s1.heap.objs.size + 1], _, _, H1, rfl, I2,
        turn_zip2 (ne 2 4 (by decide)) (ne 3 4 (by decide)) (ne 2 3 (by decide)) (ne 2 0 (by decide)) (ne 2 1 (by decide)) (ne 4 0 (by decide)) (ne 3 0 (by decide)) (ne 4 1 (by decide)) (ne 3 1 (by decide)) (ne 0 1 (by decide)), ⟨hz, hTI, ⟨_, _, hTO⟩, j1 _ _ h1, j2 _ _ h2⟩, fun c hcm => ?_, q⟩
      have e' : c = s1.heap.objs.size + 4 ∨ c = s1.heap.objs.size + 2 ∨ c = s1.heap.objs.size + 3 ∨ c = s1.heap.objs.size ∨ c = s1.heap.objs.size + 1 := by simpa using hcm
      have hle : s1.heap.objs.size ≤ c := by
        rcases e' with z | z | z | z | z
        · rw [z]; exact Nat.le_add_right _ _
        · rw [z]; exact Nat.le_add_right _ _
        · rw [z]; exact Nat.le_add_right _ _
        · rw [z]; exact Nat.le_refl _
        · rw [z]; exact Nat.le_add_right _ _
      exact I1.fpOk hle (I1.hok.fresh hle)
theorem pi_z3 (hg : Gl X "zip") (hm : X.mg "zip" = none) (ha : PA X [e, e2, e3] ta)
    (hs : starEach [e, e2, e3] X.env = (false, eval e X.env) :: starEach [e2, e3] X.env := by rfl) (hpl : (backTo pos (starEach [e2, e3] X.env)).any (·.1) = false := by rfl) :
    PI X (.Tuple elts kk tpos) (.Call (.Name "zip" p) [e, e2, e3] [] pos) (iZ3 ta) := by
  refine ⟨fun pins s σ H R I h => ?_⟩
  refine Call_ (ld_blt I hg hm PyProof.Rows.boot_zip (PyProof.Rows.callWith_type1 (thn (ha.run pos pins s σ H _ I h) fun us s1 ⟨vs, H1, I1, r1, q1⟩ => ?_) hs hpl))
  obtain ⟨k1, k2, k3, ex, in1, in2, in3, q⟩ := q1
  subst ex
  cases r1 with
  | cons r rr =>
    cases rr with
    | cons r' rr =>
      cases rr with
      | cons r'' rr =>
        cases rr
        obtain ⟨o1, G1, B1, g1, j1⟩ := k1.begins I1 in1 r
        obtain ⟨o2, G2, B2, g2, j2⟩ := k2.begins I1 in2 r'
        obtain ⟨o3, G3, B3, g3, j3⟩ := k3.begins I1 in3 r''
        refine zip_begins3 B1 B2 B3 g1 g2 g3 fun h' hz hTI hTO h1 h2 h3 hsz hk => wpAny_pyIter_zip hz ?_
        have I2 : Inv X pins σ H1 { s1 with heap := h' } := I1.kept (t' := s1.toks) hk
        have ne : ∀ i j : Nat, i ≠ j → s1.heap.objs.size + i ≠ s1.heap.objs.size + j := fun i j n e => n (Nat.add_left_cancel e)
        refine ⟨s1.heap.objs.size + 5, [s1.heap.objs.size + 5, s1.heap.objs.size + 3, s1.heap.objs.size + 4, s1.heap.objs.size, s1.heap.objs.size + 1, s1.heap.objs.size + 2], _, _, H1, rfl, I2,
          turn_zip3 (ne 3 5 (by decide)) (ne 4 5 (by decide)) (ne 3 4 (by decide)) (ne 3 0 (by decide)) (ne 3 1 (by decide)) (ne 3 2 (by decide)) (ne 5 0 (by decide)) (ne 4 0 (by decide)) (ne 5 1 (by decide)) (ne 4 1 (by decide)) (ne 5 2 (by decide)) (ne 4 2 (by decide)) (ne 0 1 (by decide)) (ne 0 2 (by decide)) (ne 1 2 (by decide)), ⟨hz, hTI, ⟨_, _, _, hTO⟩, j1 _ _ h1, j2 _ _ h2, j3 _ _ h3⟩, fun c hcm => ?_, q⟩
        have e' : c = s1.heap.objs.size + 5 ∨ c = s1.heap.objs.size + 3 ∨ c = s1.heap.objs.size + 4 ∨ c = s1.heap.objs.size ∨ c = s1.heap.objs.size + 1 ∨ c = s1.heap.objs.size + 2 := by simpa using hcm
        have hle : s1.heap.objs.size ≤ c := by
          rcases e' with z | z | z | z | z | z
          · rw [z]; exact Nat.le_add_right _ _
          · rw [z]; exact Nat.le_add_right _ _
          · rw [z]; exact Nat.le_add_right _ _
          · rw [z]; exact Nat.le_refl _
          · rw [z]; exact Nat.le_add_right _ _
          · rw [z]; exact Nat.le_add_right _ _
        exact I1.fpOk hle (I1.hok.fresh hle)
theorem pi_en (hg : Gl X "enumerate") (hm : X.mg "enumerate" = none) (ha : PA X [e] ta) (hs : starEach [e] X.env = [(false, eval e X.env)] := by rfl) :
    PI X (.Tuple elts kk tpos) (.Call (.Name "enumerate" p) [e] [] pos) (iEn ta) := by
  refine ⟨fun pins s σ H R I h => ?_⟩
  refine Call_ (ld_blt I hg hm boot_enumerate (PyProof.Rows.callWith_type1 (thn (ha.run pos pins s σ H _ I h) fun us s1 ⟨vs, H1, I1, r1, q1⟩ => ?_) hs rfl))
  obtain ⟨k1, ex, in1, q⟩ := q1
  subst ex
  cases r1 with
  | cons r rr =>
    cases rr
    obtain ⟨o1, G1, B1, g1, j1⟩ := k1.begins I1 in1 r
    refine enum_begins1 B1 g1 fun h' he hit hsz hk => wpAny_pyIter_enum he ?_
    have I2 : Inv X pins σ H1 { s1 with heap := h' } := I1.kept (t' := s1.toks) hk
    refine ⟨s1.heap.objs.size + 1, [s1.heap.objs.size + 1, s1.heap.objs.size], _, _, H1, rfl, I2, turn_en (Nat.succ_ne_self _), ⟨⟨.none, he⟩, j1 _ _ hit⟩, fun b hb => ?_, q⟩
    have e' : b = s1.heap.objs.size + 1 ∨ b = s1.heap.objs.size := by simpa using hb
    have hle : s1.heap.objs.size ≤ b := by
      rcases e' with z | z
      · rw [z]; exact Nat.le_add_right _ _
      · rw [z]; exact Nat.le_refl _
    exact I1.fpOk hle (I1.hok.fresh hle)
/-- a list, a tuple, a text as it stands -/
def ItA (K : PySem.W.Frag) : SrcK → It
  | .lst a _ => Itl K a
  | .tup a _ => Itt K a
  | .txt z => Its z
def iAny (K : PySem.W.Frag) (te : TE) : TI := fun σ H R => te σ H fun v H1 => ∃ k : SrcK, v = k.val ∧ k.isIn H1 ∧ R (ItA K k) H1
theorem pi_any {tg : Expr} {te : TE} (he : PE X e te) : PI X tg e (iAny X.K te) := by
  refine ⟨fun pins s σ H R I h => ?_⟩
  refine thn (he.run pins s σ H _ I h) fun v s1 ⟨x, H1, I1, r1, q1⟩ => ?_
  obtain ⟨k, e, hin, q⟩ := q1
  subst e
  cases k with
  | lst a xs =>
    have hin : H1 a = some (.lst xs) := hin
    obtain rfl : v = .ref a := r1
    obtain ⟨its, rv, p, hz⟩ := I1.list (.of hin)
    exact wpAny_pyIter_list p.isList (pi_one (tk := s1.toks) I1 _ (turn_list a _) ⟨_, Heap.get?_push_size _ rfl, rfl, rfl⟩ q)
  | tup a xs =>
    have hin : H1 a = some (.tup xs) := hin
    obtain rfl : v = .ref a := r1
    obtain ⟨its, rv, p, hz⟩ := I1.tuple (.of hin)
    exact wpAny_pyIter_tuple (show s1.heap.IsTuple a its.toArray from p) (pi_one (tk := s1.toks) I1 _ (turn_tuple a _) ⟨_, Heap.get?_push_size _ rfl, rfl, rfl⟩ q)
  | txt x =>
    obtain ⟨t, rfl⟩ := r1
    cases ha : x.cps.all (· < 128)
    · exact wpAny_pyIter_wide ha (pi_one (tk := s1.toks) I1 _ (turn_str _ x t "str_iterator" (.inr rfl)) ⟨_, Heap.get?_push_size _ rfl, rfl, rfl⟩ q)
    · exact wpAny_pyIter_ascii ha (pi_one (tk := s1.toks) I1 _ (turn_str _ x t "str_ascii_iterator" (.inl rfl)) ⟨_, Heap.get?_push_size _ rfl, rfl, rfl⟩ q)
end

/-! ### the readings -/
def itD : D → Option (List D)
  | .lst l => some l
  | .tup l => some l
  | .str z => some (z.map fun c => .str [c])
  | _ => none
def sIt (f : SE) : SL := fun r m => bindR (f r m) fun d m => ofO (itD d) m
section
variable {X : Cx} {w : Wi} {a b c e tg : Expr} {es : List Expr} {p pos tpos : Pos} {elts : List Expr} {kk : Nat} {fa f : SE} {g : SL}
/-- what a source's items are -/
theorem src_of {F : Hp} {io : List Addr} {d : D} {v : V} {l : List D} (h : Rep F io d v) (e : itD d = some l) : ∃ k : SrcK, v = k.val ∧ (∀ F' H, Sub F F' → Sub F' H → k.isIn H) ∧ l.length = k.n ∧ ∀ i u, k.at' i = some u → ∃ q, l[i]? = some q ∧ Rep F io q u := by
  cases h with
  | lst e1 r =>
    rename_i a ds vs
    obtain rfl : ds = l := Option.some.inj e
    exact ⟨.lst a vs, rfl, fun F' H s1 s2 => s2 _ _ (s1 _ _ e1), r.length, fun i u q => r.getV q⟩
  | tup e1 r =>
    rename_i a ds vs
    obtain rfl : ds = l := Option.some.inj e
    exact ⟨.tup a vs, rfl, fun F' H s1 s2 => s2 _ _ (s1 _ _ e1), r.length, fun i u q => r.getV q⟩
  | str z =>
    obtain rfl : z.map (fun c => D.str [c]) = l := Option.some.inj e
    refine ⟨.txt ⟨z.toArray⟩, rfl, fun F' H s1 s2 => trivial, by simp [SrcK.n], fun i u q => ?_⟩
    have q : (z.toArray[i]?).map (fun c => V.str ⟨#[c]⟩) = some u := q
    have q : (z[i]?).map (fun c => V.str ⟨#[c]⟩) = some u := by simpa using q
    cases k : z[i]? with
    | none => rw [k] at q; cases q
    | some c =>
      rw [k] at q
      cases q
      exact ⟨.str [c], by simp [k], .str [c]⟩
  | _ => cases e
theorem Serves.any {F : Hp} {io : List Addr} {l : List D} {k : SrcK} {K : PySem.W.Frag} (hin : ∀ F' H, Sub F F' → Sub F' H → k.isIn H) (hn : l.length = k.n) (hat : ∀ i u, k.at' i = some u → ∃ q, l[i]? = some q ∧ Rep F io q u) : Serves F io (ItA K k) l := by
  have yl : ∀ F' io' H i d v H', Sub F F' → Pfx io io' → l[i]? = some d → H' = H → k.at' i = some v → Yl F' io' H d v H' := fun F' io' H i d v H' s1 s2 e1 e2 e3 => by
    subst e2
    obtain ⟨q, e4, r⟩ := hat i v e3
    rw [e1] at e4
    cases e4
    exact .here (r.mono s1 s2)
  cases k with
  | lst a xs =>
    have hn : l.length = xs.length := hn
    exact .of_walk (walk_list (xs := xs)) hn.symm (fun F' H s1 s2 => SqL.of (hin F' H s1 s2)) fun F' io' H i d v H' s1 s2 s3 e y => yl F' io' H i d v H' s1 s2 e y.1 y.2
  | tup a xs =>
    have hn : l.length = xs.length := hn
    exact .of_walk (walk_tup (xs := xs)) hn.symm (fun F' H s1 s2 => SqT.of (hin F' H s1 s2)) fun F' io' H i d v H' s1 s2 s3 e y => yl F' io' H i d v H' s1 s2 e y.1 y.2
  | txt z =>
    have hn : l.length = z.cps.size := hn
    exact .of_walk walk_str hn.symm (fun F' H s1 s2 => trivial) fun F' io' H i d v H' s1 s2 s3 e ⟨y1, c, y2, y3⟩ => yl F' io' H i d v H' s1 s2 e y1 (by show (z.cps[i]?).map _ = _; rw [y2, y3]; rfl)
theorem di_any (h : DE X w e f) : DI X w tg e (sIt f) := PI.imp (pi_any h) fun s H R ⟨x, r, m, Rl, q⟩ => by
  refine rd_bind Rl q fun d m1 v y H1 R1 p1 st1 q1 => ?_
  cases k : itD d with
  | none => rw [k] at q1; exact q1.elim
  | some l =>
    rw [k] at q1
    obtain ⟨z, ev, hin, hn, hat⟩ := src_of p1 k
    exact ⟨z, ev, hin _ _ (.refl _) R1.sub, q1 _ y H1 R1 (Serves.any hin hn hat) .refl⟩
def sZ2 (g : SL) : SL := fun r m => bindR (g r m) fun ds m => match ds with
  | [a, b] => match itD a, itD b with
    | some l, some k => .ok (List.zipWith (fun x y => .tup [x, y]) l k) m
    | _, _ => .bad
  | _ => .bad
def sZ3 (g : SL) : SL := fun r m => bindR (g r m) fun ds m => match ds with
  | [a, b, c] => match itD a, itD b, itD c with
    | some l, some k, some j => .ok (List.zipWith (fun x (y : D × D) => .tup [x, y.1, y.2]) l (k.zip j)) m
    | _, _, _ => .bad
  | _ => .bad
/-- the pairs of places and items from a number on -/
def enumL : Nat → List D → List D
  | _, [] => []
  | i, d :: l => .tup [.int i, d] :: enumL (i + 1) l
theorem enumL_length : ∀ (l : List D) (n : Nat), (enumL n l).length = l.length
  | [], _ => rfl
  | _ :: l, n => by simp [enumL, enumL_length l]
theorem enumL_get : ∀ (l : List D) (n i : Nat), (enumL n l)[i]? = (l[i]?).map fun d => .tup [.int (n + i : Nat), d]
  | [], n, i => by simp [enumL]
  | d :: l, n, 0 => by simp [enumL]
  | d :: l, n, i + 1 => by
    have h := enumL_get l (n + 1) i
    have e1 : n + 1 + i = n + (i + 1) := by omega
    rw [e1] at h
    simpa [enumL] using h
def sEn (g : SL) : SL := fun r m => bindR (g r m) fun ds m => match ds with
  | [a] => match itD a with
    | some l => .ok (enumL 0 l) m
    | _ => .bad
  | _ => .bad
theorem di_zip (hg : Gl X "zip") (hm : X.mg "zip" = none) (ha : DA X w [a, b] g)
    (hs : starEach [a, b] X.env = (false, eval a X.env) :: starEach [b] X.env := by rfl) (hpl : (backTo pos (starEach [b] X.env)).any (·.1) = false := by rfl) :
    DI X w (.Tuple elts kk tpos) (.Call (.Name "zip" p) [a, b] [] pos) (sZ2 g) := PI.imp (pi_z2 hg hm ha hs hpl) fun s H R ⟨x, r, m, Rl, q⟩ => by
  refine rd_bind Rl q fun ds m1 vs y H1 R1 p1 st1 q1 => ?_
  split at q1
  · rename_i d1 d2
    cases p1 with
    | cons r1 t =>
      cases t with
      | cons r2 t =>
        cases t
        split at q1
        · rename_i l k e1 e2
          obtain ⟨z1, ev1, in1, n1, at1⟩ := src_of r1 e1
          obtain ⟨z2, ev2, in2, n2, at2⟩ := src_of r2 e2
          refine ⟨z1, z2, by rw [ev1, ev2], in1 _ _ (.refl _) R1.sub, in2 _ _ (.refl _) R1.sub, q1 _ y H1 R1 ⟨fun F' H i s1 s2 hi => ⟨?_, in1 F' H s1 s2, in2 F' H s1 s2⟩, fun F' H s1 s2 => ⟨?_, in1 F' H s1 s2, in2 F' H s1 s2⟩, fun F' io' H i d v H' s1 s2 s3 e hy => ?_⟩ .refl⟩
          · rw [List.length_zipWith] at hi
            omega
          · rw [List.length_zipWith]
            omega
          · obtain ⟨T, x1, x2, rfl, hT, rfl, a1, a2⟩ := hy
            obtain ⟨q1, e3, c1⟩ := at1 i x1 a1
            obtain ⟨q2, e4, c2⟩ := at2 i x2 a2
            rw [List.getElem?_zipWith, e3, e4] at e
            cases e
            exact .new hT (.cons (c1.mono s1 s2) (.cons (c2.mono s1 s2) .nil))
        · exact q1.elim
  · exact q1.elim
theorem di_zip3 (hg : Gl X "zip") (hm : X.mg "zip" = none) (ha : DA X w [a, b, c] g)
    (hs : starEach [a, b, c] X.env = (false, eval a X.env) :: starEach [b, c] X.env := by rfl) (hpl : (backTo pos (starEach [b, c] X.env)).any (·.1) = false := by rfl) :
    DI X w (.Tuple elts kk tpos) (.Call (.Name "zip" p) [a, b, c] [] pos) (sZ3 g) := PI.imp (pi_z3 hg hm ha hs hpl) fun s H R ⟨x, r, m, Rl, q⟩ => by
  refine rd_bind Rl q fun ds m1 vs y H1 R1 p1 st1 q1 => ?_
  split at q1
  · rename_i d1 d2 d3
    cases p1 with
    | cons r1 t =>
      cases t with
      | cons r2 t =>
        cases t with
        | cons r3 t =>
          cases t
          split at q1
          · rename_i l k j e1 e2 e3
            obtain ⟨z1, ev1, in1, n1, at1⟩ := src_of r1 e1
            obtain ⟨z2, ev2, in2, n2, at2⟩ := src_of r2 e2
            obtain ⟨z3, ev3, in3, n3, at3⟩ := src_of r3 e3
            refine ⟨z1, z2, z3, by rw [ev1, ev2, ev3], in1 _ _ (.refl _) R1.sub, in2 _ _ (.refl _) R1.sub, in3 _ _ (.refl _) R1.sub, q1 _ y H1 R1 ⟨fun F' H i s1 s2 hi => ⟨?_, in1 F' H s1 s2, in2 F' H s1 s2, in3 F' H s1 s2⟩, fun F' H s1 s2 => ⟨?_, in1 F' H s1 s2, in2 F' H s1 s2, in3 F' H s1 s2⟩, fun F' io' H i d v H' s1 s2 s3 e hy => ?_⟩ .refl⟩
            · rw [List.length_zipWith, List.length_zip] at hi
              omega
            · rw [List.length_zipWith, List.length_zip]
              omega
            · obtain ⟨T, x1, x2, x3, rfl, hT, rfl, a1, a2, a3⟩ := hy
              obtain ⟨q1, e4, c1⟩ := at1 i x1 a1
              obtain ⟨q2, e5, c2⟩ := at2 i x2 a2
              obtain ⟨q3, e6, c3⟩ := at3 i x3 a3
              have ez : (k.zip j)[i]? = some (q2, q3) := by rw [List.getElem?_zip_eq_some]; exact ⟨e5, e6⟩
              rw [List.getElem?_zipWith, e4, ez] at e
              cases e
              exact .new hT (.cons (c1.mono s1 s2) (.cons (c2.mono s1 s2) (.cons (c3.mono s1 s2) .nil)))
          · exact q1.elim
  · exact q1.elim
theorem di_en (hg : Gl X "enumerate") (hm : X.mg "enumerate" = none) (ha : DA X w [a] g) (hs : starEach [a] X.env = [(false, eval a X.env)] := by rfl) :
    DI X w (.Tuple elts kk tpos) (.Call (.Name "enumerate" p) [a] [] pos) (sEn g) := PI.imp (pi_en hg hm ha hs) fun s H R ⟨x, r, m, Rl, q⟩ => by
  refine rd_bind Rl q fun ds m1 vs y H1 R1 p1 st1 q1 => ?_
  split at q1
  · rename_i d1
    cases p1 with
    | cons r1 t =>
      cases t
      split at q1
      · rename_i l e1
        obtain ⟨z1, ev1, in1, n1, at1⟩ := src_of r1 e1
        refine ⟨z1, by rw [ev1], in1 _ _ (.refl _) R1.sub, q1 _ y H1 R1 ⟨fun F' H i s1 s2 hi => ⟨?_, in1 F' H s1 s2⟩, fun F' H s1 s2 => ⟨?_, in1 F' H s1 s2⟩, fun F' io' H i d v H' s1 s2 s3 e hy => ?_⟩ .refl⟩
        · rw [enumL_length] at hi
          omega
        · rw [enumL_length]
          omega
        · obtain ⟨T, x1, rfl, hT, rfl, a1⟩ := hy
          obtain ⟨q1, e3, c1⟩ := at1 i x1 a1
          rw [enumL_get, e3] at e
          cases e
          rw [Nat.zero_add]
          exact .new hT (.cons (.int _) (.cons (c1.mono s1 s2) .nil))
      · exact q1.elim
  · exact q1.elim
/-- i, i + 1, .. (n of them) -/
def rangeL (i : Int) (n : Nat) : List D := (List.range n).map fun (k : Nat) => .int (i + k)
theorem Serves.range {F : Hp} {io : List Addr} {i : Int} {n : Nat} : Serves F io (Itr i n) (rangeL i n) :=
  .of_walk walk_range (by simp [rangeL]) (fun _ _ _ _ => trivial) fun F' io' H j d v H' s1 s2 s3 e ⟨y1, y2⟩ => by
    subst y1 y2
    have hj : j < n := by
      have := (List.getElem?_eq_some_iff.mp e).1
      simpa [rangeL] using this
    have e : some (D.int (i + (j : Nat))) = some d := by simpa [rangeL, hj] using e
    cases e
    exact .here (.int _)
/-- range: ends that are small -/
def inR (i : Int) : Bool := decide (-1073741824 ≤ i ∧ i ≤ 1073741824)
theorem inR_of {i : Int} (h : inR i = true) : -(2 ^ 62) ≤ i ∧ i < 2 ^ 62 := by
  have h := of_decide_eq_true h
  constructor <;> omega
def sRg (g : SL) : SL := fun r m => bindR (g r m) fun ds m => match ds with
  | [.int j] => if inR j = true then .ok (rangeL 0 j.toNat) m else .bad
  | _ => .bad
def sRg2 (g : SL) : SL := fun r m => bindR (g r m) fun ds m => match ds with
  | [.int i, .int j] => if inR i = true ∧ inR j = true then .ok (rangeL i (j - i).toNat) m else .bad
  | _ => .bad
theorem di_range (hg : Gl X "range") (hm : X.mg "range" = none) (ha : DA X w [a] g) (hs : starEach [a] X.env = [(false, eval a X.env)] := by rfl) :
    DI X w tg (.Call (.Name "range" p) [a] [] pos) (sRg g) := PI.imp (pi_range1 hg hm ha hs) fun s H R ⟨x, r, m, Rl, q⟩ => by
  refine rd_bind Rl q fun ds m1 vs y H1 R1 p1 st1 q1 => ?_
  split at q1
  · rename_i j
    cases p1 with
    | cons r1 t =>
      cases t
      cases r1
      obtain ⟨hj, q1⟩ := Fin.ite q1
      exact ⟨j, rfl, (inR_of hj).1, (inR_of hj).2, q1 _ y H1 R1 .range .refl⟩
  · exact q1.elim
theorem di_range2 (hg : Gl X "range") (hm : X.mg "range" = none) (ha : DA X w [a, b] g) (hs : starEach [a, b] X.env = [(false, eval a X.env), (false, eval b X.env)] := by rfl) (hs2 : starEach [b] X.env = [(false, eval b X.env)] := by rfl) :
    DI X w tg (.Call (.Name "range" p) [a, b] [] pos) (sRg2 g) := PI.imp (pi_range2 hg hm ha hs hs2) fun s H R ⟨x, r, m, Rl, q⟩ => by
  refine rd_bind Rl q fun ds m1 vs y H1 R1 p1 st1 q1 => ?_
  split at q1
  · rename_i i j
    cases p1 with
    | cons r1 t =>
      cases r1
      cases t with
      | cons r2 t =>
        cases t
        cases r2
        obtain ⟨⟨h1, h2⟩, q1⟩ := Fin.ite q1
        exact ⟨i, j, rfl, ⟨(inR_of h1).1, (inR_of h1).2, (inR_of h2).1, (inR_of h2).2⟩, q1 _ y H1 R1 .range .refl⟩
  · exact q1.elim
end
end Dl
set_option autoImplicit true
/-! The data layer: list comprehensions. -/
namespace Dl
open PySem PySem.Spec PyProof.Rows L2 TL

abbrev DTs (X : Cx) (w : Wi) (ifs : List Expr) (t : SB) : Prop := PTs X ifs (rd (PB (pw := pwOf X)) w t)
def Wi.no (w : Wi) : Wi := { w with W := fun _ _ _ _ => False }
def sYes : SB := fun _ m => .ok true m
/-- a refusal within is not told -/
def bindN {α β : Type} (r : R α) (f : α → Sto → R β) : R β := match r with
  | .ok a m => f a m
  | _ => .bad
def lcL (g : Gm) (t : SB) (f : SE) (r0 : Env) : List D → Sto → R (List D)
  | [], m => .ok [] m
  | d :: l, m => match g d r0 with
    | none => .bad
    | some r' => bindN (t r' m) fun b m => if b = true then bindN (f r' m) fun y m => bindN (lcL g t f r0 l m) fun ys m => .ok (y :: ys) m else lcL g t f r0 l m
/-- the slots wiped, none of which holds a thing of its own -/
def wipeE (r : Env) : List Nat → Env
  | [] => r
  | v :: vs => (wipeE r vs).set v none
def bare (r : Env) (v : Nat) : Bool := match r[v]? with
  | some (some (.lst _)) => false
  | some (some (.dct _ _)) => false
  | _ => true
def sLc (vs : List Nat) (i : SL) (g : Gm) (t : SB) (f : SE) : SE := fun r m => bindR (i r m) fun ds m => if ds.length ≤ LIM ∧ vs.all (bare r) = true then bindR (lcL g t f (wipeE r vs) ds m) fun l m => .ok (.lst l) m else .bad
section
variable {pw : PWd} {F F' : Hp} {io io' : List Addr} {H H' : Hp}
theorem Vars.hide : ∀ {r : Env} {s : L2.St} {A : List Addr} (i : Nat), Vars pw F io H r s A → bare r i = true → Vars pw F io H (r.set i none) (s.set i none) A
  | _, _, _, _, .nil, _ => .nil
  | _, _, _, 0, .skip t, _ => .skip t
  | _, _, _, 0, .cons c t, h => by
    cases c with
    | val p => exact .skip t
    | lst e p => cases h
    | dct e p => cases h
  | _, _, _, i + 1, .skip t, h => .skip (Vars.hide i t (by simpa [bare] using h))
  | _, _, _, i + 1, .cons c t, h => .cons c (Vars.hide i t (by simpa [bare] using h))
theorem bare_set {r : Env} {i v : Nat} (h : bare r i = true) : bare (r.set v none) i = true := by
  unfold bare at h ⊢
  by_cases e : v = i
  · subst e
    by_cases hl : v < r.length
    · rw [List.getElem?_set_self hl]
    · rw [List.getElem?_eq_none (by simpa using hl)]
  · rw [List.getElem?_set_ne e]
    exact h
theorem bare_wipe {r : Env} {i : Nat} (h : bare r i = true) : ∀ vs : List Nat, bare (wipeE r vs) i = true
  | [] => h
  | v :: vs => bare_set (bare_wipe h vs)
theorem Vars.wipe {r : Env} {s : L2.St} {A : List Addr} (h : Vars pw F io H r s A) : ∀ (vs : List Nat), vs.all (bare r) = true → Vars pw F io H (wipeE r vs) (wipe s vs) A
  | [], _ => h
  | v :: vs, hb => by
    simp only [List.all_cons, Bool.and_eq_true] at hb
    exact (Vars.wipe h vs hb.2).hide v (bare_wipe hb.1 vs)
end
theorem wipe_get {s : L2.St} (vs : List Nat) (j : Nat) (hj : j ∉ vs) : (wipe s vs)[j]? = s[j]? := by
  induction vs with
  | nil => rfl
  | cons v vs ih =>
    unfold wipe
    rw [List.getElem?_set_ne (fun e => hj (by simp [e])), ih fun z => hj (List.mem_cons_of_mem _ z)]
theorem wipe_at {s : L2.St} (vs : List Nat) (j : Nat) (hj : j ∈ vs) (hl : j < s.length) : (wipe s vs)[j]? = some none := by
  induction vs with
  | nil => cases hj
  | cons v vs ih =>
    unfold wipe
    by_cases e : v = j
    · subst e
      rw [List.getElem?_set_self (by rw [wipe_length]; exact hl)]
    · rw [List.getElem?_set_ne e]
      exact ih ((List.mem_cons.mp hj).resolve_left fun z => e z.symm)
theorem Only.wipe {ws vs : List Nat} {s s' : L2.St} (h : Only ws s s') (hw : ∀ i ∈ ws, i ∈ vs) : wipe s' vs = wipe s vs := by
  refine List.ext_getElem? fun j => ?_
  by_cases hj : j ∈ vs
  · by_cases hl : j < s.length
    · rw [wipe_at vs j hj (by rw [h.1]; exact hl), wipe_at vs j hj hl]
    · rw [List.getElem?_eq_none (by rw [wipe_length, h.1]; omega), List.getElem?_eq_none (by rw [wipe_length]; omega)]
  · rw [wipe_get vs j hj, wipe_get vs j hj]
    exact h.2 j fun z => hj (hw j z)
theorem wipe_wipe {s : L2.St} (vs : List Nat) : wipe (wipe s vs) vs = wipe s vs := by
  refine List.ext_getElem? fun j => ?_
  by_cases hj : j ∈ vs
  · by_cases hl : j < s.length
    · rw [wipe_at vs j hj (by rw [wipe_length]; exact hl), wipe_at vs j hj hl]
    · rw [List.getElem?_eq_none (by rw [wipe_length, wipe_length]; omega), List.getElem?_eq_none (by rw [wipe_length]; omega)]
  · rw [wipe_get vs j hj]
section
variable {X : Cx} {w : Wi} {c elt tg iter : Expr} {ifs : List Expr} {scope : Scope} {own : List (Str × Nat)} {pos spos : Pos} {i : SL} {g : Gm} {t : SB} {f : SE} {ws vs : List Nat} {pos : Pos}
theorem dts_nil : DTs X w [] sYes := ⟨fun pins s σ H Q I ⟨x, r, m, R, q⟩ => pts_nil.run pins s σ H Q I (Fin.here R q rfl)⟩
theorem dts_one (h : DT X w c t) : DTs X w [c] t := pts_one h
theorem Fin.okN {α β γ : Type} {P : PP pw γ β} {x : Sx pw} {r : Env} {s : L2.St} {H : Hp} {Q : β → Hp → Prop} {a : R α} {k : α → Sto → R γ} (h : Fin P w x r s H Q (bindN a k)) : ∃ b m, a = .ok b m ∧ Fin P w x r s H Q (k b m) := by
  cases a with
  | ok b m => exact ⟨b, m, rfl, h⟩
  | exc c v m => exact h.elim
  | bad => exact h.elim
theorem Fin.bindN {α β γ δ : Type} {P : PP pw δ β} {x : Sx pw} {r : Env} {s : L2.St} {H : Hp} {Q : β → Hp → Prop} {a : R α} {k : α → Sto → R γ} {g : γ → Sto → R δ} (h : Fin P w x r s H Q (bindR (bindN a k) g)) : Fin P w x r s H Q (bindN a fun b m => bindR (k b m) g) := by
  cases a with
  | ok b m => exact h
  | exc c v m => exact h.elim
  | bad => exact h.elim
/-- the list in the making -/
structure Mk (D : Addr) (y : Sx pw) (H : Hp) (acc : List Dl.D) (us : List V) : Prop where
  at' : H D = some (.lst us)
  rep : Reps y.F y.io acc us
  nA : D ∉ y.A1 ++ y.A2
  nF : y.F D = none
theorem Mk.stay {D : Addr} {y z : Sx pw} {H H' : Hp} {acc : List Dl.D} {us : List V} (h : Mk D y H acc us) (st : StE y H z H') : Mk D z H' acc us := by
  have n2 : D ∉ y.A2 := fun q => h.nA (List.mem_append_right _ q)
  refine ⟨st.st.keep D _ h.at' n2, h.rep.mono st.st.F st.st.io, fun q => ?_, ?_⟩
  · rcases List.mem_append.mp q with q | q
    · rw [st.a1] at q
      exact h.nA (List.mem_append_left _ q)
    · rcases st.st.newA D q with q | q
      · exact n2 q
      · rw [h.at'] at q; cases q
  · cases e : z.F D with
    | none => rfl
    | some o =>
      rcases st.st.newF D h.nF (by rw [e]; exact fun z => by cases z) with q | q
      · rw [h.at'] at q; cases q
      · exact absurd q n2
theorem Mk.put {D : Addr} {y : Sx pw} {H : Hp} {acc : List Dl.D} {us : List V} {d : Dl.D} {v : V} {r : Env} {m : Sto} {s : L2.St} (h : Mk D y H acc us) (R : Rel y r m s H) (p : Rep y.F y.io d v) :
    Mk D y (upd H D (.lst (us ++ [v]))) (acc ++ [d]) (us ++ [v]) ∧ Rel y r m s (upd H D (.lst (us ++ [v]))) ∧ ∀ {x : Sx pw} {H1 : Hp}, H1 D = none → StE x H1 y H → StE x H1 y (upd H D (.lst (us ++ [v]))) := by
  have ne1 : ∀ b ∈ y.A1, b ≠ D := fun b hb e => h.nA (List.mem_append_left _ (e ▸ hb))
  have ne2 : ∀ b ∈ y.A2, b ≠ D := fun b hb e => h.nA (List.mem_append_right _ (e ▸ hb))
  refine ⟨⟨upd_same, h.rep.append (.cons p .nil), h.nA, h.nF⟩, ⟨fun b o e => ?_, R.vars.mono (.refl _) (.refl _) fun b hb o e => by rw [upd_ne (ne1 b hb)]; exact e, R.sto.mono (.refl _) (.refl _) fun b hb o e => by rw [upd_ne (ne2 b hb)]; exact e, R.nd, R.nF⟩, fun {x H1} hD st => ⟨⟨st.st.F, st.st.io, fun b o e n => ?_, fun b e => ?_, st.st.newF, st.st.newA⟩, st.a1⟩⟩
  · rw [upd_ne (ne_of_none e h.nF)]
    exact R.sub _ _ e
  · rw [upd_ne (ne_of_none e hD)]
    exact st.st.keep b o e n
  · by_cases hb : b = D
    · subst hb; exact hD
    · rw [upd_ne hb] at e
      exact st.st.there b e
theorem Stp.trans {x y z : Sx pw} {H H1 H2 : Hp} (a : Stp x.A2 x H y H1) (b : Stp y.A2 y H1 z H2) : Stp x.A2 x H z H2 := by
  refine ⟨a.F.trans b.F, a.io.trans b.io, fun c o h n => b.keep c o (a.keep c o h n) fun q => ?_, fun c h => a.there c (b.there c h), fun c h1 h2 => ?_, fun c h => ?_⟩
  · rcases a.newA c q with q | q
    · exact n q
    · rw [h] at q; cases q
  · cases q : y.F c with
    | none =>
      rcases b.newF c q h2 with w | w
      · exact .inl (a.there c w)
      · exact (a.newA c w).elim .inr .inl
    | some o => exact a.newF c h1 (by rw [q]; exact fun z => by cases z)
  · rcases b.newA c h with q | q
    · exact a.newA c q
    · exact .inr (a.there c q)
/-- the slots as they were, a block's objects as they are -/
theorem Rel.back {x y : Sx pw} {r r' : Env} {m m' : Sto} {s s' : L2.St} {H H' : Hp} (R : Rel x r m s H) (st : Stp x.A2 x H y H') (R' : Rel y r' m' s' H') : Rel (y.w1 (x.A1)) r m' s H' ∧ StE x H (y.w1 (x.A1)) H' := by
  have k : Keep x.A1 H H' := fun b hb o e => st.keep b o e fun z => (List.nodup_append.mp R.nd).2.2 b hb b z rfl
  have hn : ∀ b ∈ x.A1, H b ≠ none := R.vars.there
  refine ⟨⟨R'.sub, R.vars.mono st.F st.io k, R'.sto, List.nodup_append.mpr ⟨(List.nodup_append.mp R.nd).1, (List.nodup_append.mp R'.nd).2.1, fun a ha b hb e => ?_⟩, fun b hb => ?_⟩, ⟨⟨st.F, st.io, st.keep, st.there, st.newF, st.newA⟩, rfl⟩⟩
  · subst e
    rcases st.newA a hb with z | z
    · exact (List.nodup_append.mp R.nd).2.2 a ha a z rfl
    · exact hn a ha z
  · rcases List.mem_append.mp hb with hb | hb
    · cases e : y.F b with
      | none => rfl
      | some o =>
        rcases st.newF b (R.nF b (List.mem_append_left _ hb)) (by rw [e]; exact fun z => by cases z) with z | z
        · exact absurd z (hn b hb)
        · exact absurd rfl ((List.nodup_append.mp R.nd).2.2 b hb b z)
    · exact R'.nF b (List.mem_append_right _ hb)
theorem lc_rd (hw : ∀ i ∈ ws, i ∈ vs) (s : L2.St) (H : Hp) (Q : VK) (q : rd (PV (pw := pw)) w (sLc vs i g t f) s H Q) : tLc (rd (PIt (pw := pw)) w i) (rdG pw ws g) (rd (PB (pw := pw)) w.no t) (rd (PV (pw := pw)) w.no f) vs s H Q := by
  obtain ⟨x, r, m, R, q⟩ := q
  refine rd_bind R q fun ds m1 J y1 H1 R1 sv st1 q1 => ?_
  obtain ⟨⟨hz, hb⟩, q1⟩ := Fin.ite q1
  intro D hD
  -- the state before turn i
  refine ⟨fun i n H => n = ds.length - i ∧ i ≤ ds.length ∧ ∃ y m acc us, Rel y (wipeE r vs) m (wipe s vs) H ∧ Mk D y H acc us ∧ acc.length ≤ i ∧ StE y1 H1 y H ∧ Fin PV w y1 r s H1 Q (bindR (lcL g t f (wipeE r vs) (ds.drop i) m) fun l m => .ok (.lst (acc ++ l)) m), ⟨ds.length, by simp, Nat.zero_le _, y1, m1, [], [], ?_, ⟨upd_same, .nil, fun z => R1.there D z hD, ?_⟩, Nat.zero_le _, ?_, by simpa using q1⟩, ?_⟩
  · refine ⟨fun b o e => ?_, (R1.vars.wipe vs hb).mono (.refl _) (.refl _) fun b hb o e => ?_, R1.sto.mono (.refl _) (.refl _) fun b hb o e => ?_, R1.nd, R1.nF⟩
    · have e := R1.sub _ _ e
      rw [upd_ne (ne_of_none e hD)]
      exact e
    · rw [upd_ne (ne_of_none e hD)]
      exact e
    · rw [upd_ne (ne_of_none e hD)]
      exact e
  · cases e : y1.F D with
    | none => rfl
    | some o => rw [R1.sub _ _ e] at hD; cases hD
  · refine ⟨⟨.refl _, .refl _, fun b o e _ => ?_, fun b e => ?_, fun b h1 h2 => absurd h1 h2, fun b h => .inl h⟩, rfl⟩
    · rw [upd_ne (ne_of_none e hD)]
      exact e
    · by_cases hbD : b = D
      · subst hbD; exact hD
      · rw [upd_ne hbD] at e
        exact e
  · rintro i n H ⟨rfl, hi, y, m, acc, us, R, mk, hacc, st, q⟩
    by_cases hlt : i < ds.length
    · refine .inr ⟨sv.go y.F H i st.st.F R.sub hlt, fun H' => ∃ y m acc us, Rel y (wipeE r vs) m (wipe s vs) H' ∧ Mk D y H' acc us ∧ acc.length ≤ i + 1 ∧ StE y1 H1 y H' ∧ Fin PV w y1 r s H1 Q (bindR (lcL g t f (wipeE r vs) (ds.drop (i + 1)) m) fun l m => .ok (.lst (acc ++ l)) m), fun H' h' => ⟨ds.length - (i + 1), by omega, rfl, hlt, h'⟩, fun v H' hy => ?_⟩
      obtain ⟨z, Rz, pz, stz⟩ := R.yl (sv.yld y.F y.io H i ds[i] v H' st.st.F st.st.io R.sub (List.getElem?_eq_getElem hlt) hy)
      have mkz := mk.stay stz
      have hd : ds.drop i = ds[i] :: ds.drop (i + 1) := List.drop_eq_getElem_cons hlt
      rw [hd] at q
      have q : Fin PV w y1 r s H1 Q (bindR (match g ds[i] (wipeE r vs) with
        | none => .bad
        | some r' => bindN (t r' m) fun b m => if b = true then bindN (f r' m) fun y m => bindN (lcL g t f (wipeE r vs) (ds.drop (i + 1)) m) fun ys m => .ok (y :: ys) m else lcL g t f (wipeE r vs) (ds.drop (i + 1)) m) fun l m => .ok (.lst (acc ++ l)) m) := q
      refine ⟨z, wipeE r vs, m, ds[i], Rz, pz, ?_⟩
      cases eg : g ds[i] (wipeE r vs) with
      | none => rw [eg] at q; exact q.elim
      | some r' =>
        rw [eg] at q
        intro s' z' R' e1 e2 e3 e4 o'
        refine ⟨(o'.wipe hw).trans (wipe_wipe vs), z', r', m, R', ?_⟩
        have q : Fin PV w y1 r s H1 Q (bindR (bindN (t r' m) fun b m => if b = true then bindN (f r' m) fun y m => bindN (lcL g t f (wipeE r vs) (ds.drop (i + 1)) m) fun ys m => .ok (y :: ys) m else lcL g t f (wipeE r vs) (ds.drop (i + 1)) m) fun l m => .ok (.lst (acc ++ l)) m) := q
        have st' : Stp y1.A2 y1 H1 z' H' := Stp.trans (Stp.trans st.st stz.st) ⟨by rw [e1]; exact .refl _, by rw [e2]; exact .refl _, fun _ _ h _ => h, fun _ h => h, fun b h1 h2 => by rw [e1] at h2; exact absurd h1 h2, fun b h => .inl (by rw [← e3]; exact h)⟩
        have sub1 : ∀ b ∈ z'.A1, b ∈ z.A1 := e4
        have mk' : Mk D z' H' acc us := ⟨mkz.at', by rw [e1, e2]; exact mkz.rep, fun hm => mkz.nA (by
          rcases List.mem_append.mp hm with hm | hm
          · exact List.mem_append_left _ (e4 _ hm)
          · rw [e3] at hm; exact List.mem_append_right _ hm), by rw [e1]; exact mkz.nF⟩
        have hR1 : Rel y1 (wipeE r vs) m1 (wipe s vs) H1 := ⟨R1.sub, R1.vars.wipe vs hb, R1.sto, R1.nd, R1.nF⟩
        obtain ⟨b, m2, et, q⟩ := Fin.okN (Fin.bindN q)
        rw [et]
        intro b' u H4 R4 p4 st4
        cases p4
        have mk4 := mk'.stay st4
        have st4' := Stp.trans st' st4.st
        have back : ∀ {u2 : Sx pw} {H5 : Hp} {m5 : Sto} {r5 : Env} {s5 : L2.St} {acc5 : List Dl.D} {us5 : List V}, Rel u2 r5 m5 s5 H5 → Stp y1.A2 y1 H1 u2 H5 → Mk D u2 H5 acc5 us5 → Rel (u2.w1 (y1.A1)) (wipeE r vs) m5 (wipe s vs) H5 ∧ StE y1 H1 (u2.w1 (y1.A1)) H5 ∧ Mk D (u2.w1 (y1.A1)) H5 acc5 us5 := fun {u2 H5 m5 r5 s5 acc5 us5} R5 st5 mk5 => by
          obtain ⟨R6, st6⟩ := hR1.back st5 R5
          refine ⟨R6, st6, ⟨mk5.at', mk5.rep, fun hm => ?_, mk5.nF⟩⟩
          rcases List.mem_append.mp hm with hm | hm
          · exact R1.there D (List.mem_append_left _ hm) hD
          · exact mk5.nA (List.mem_append_right _ hm)
        cases b with
        | false =>
          rw [if_neg Bool.false_ne_true] at q ⊢
          obtain ⟨R6, st6, mk6⟩ := back R4 st4' mk4
          exact ⟨_, m2, acc, us, R6, mk6, by omega, st6, q⟩
        | true =>
          rw [if_pos rfl] at q ⊢
          obtain ⟨d, m3, ef, q⟩ := Fin.okN (Fin.bindN q)
          obtain ⟨ys, m4, el, q⟩ := Fin.okN (Fin.bindN q)
          refine ⟨u, r', m2, R4, ?_⟩
          rw [ef]
          intro v5 o H5 R5 p5 st5
          have mk5 := mk4.stay st5
          have st5' := Stp.trans st4' st5.st
          obtain ⟨R6, st6, mk6⟩ := back R5 st5' mk5
          obtain ⟨mk7, R7, st7⟩ := mk6.put R6 p5
          refine ⟨us, mk5.at', ?_, _, m3, acc ++ [d], us ++ [v5], R7, mk7, by simp; omega, st7 hD st6, ?_⟩
          · have := mk5.rep.length
            rw [← lim_eq]
            omega
          · rw [el]
            have q : Fin PV w y1 r s H1 Q (.ok (.lst (acc ++ (d :: ys))) m4) := q
            have e : acc ++ [d] ++ ys = acc ++ (d :: ys) := by simp
            show Fin PV w y1 r s H1 Q (.ok (.lst (acc ++ [d] ++ ys)) m4)
            rw [e]
            exact q
    · have e : i = ds.length := by omega
      subst e
      refine .inl ⟨sv.stop y.F H st.st.F R.sub, ?_⟩
      rw [List.drop_length] at q
      have q : Fin PV w y1 r s H1 Q (.ok (.lst (acc ++ [])) m) := q
      rw [List.append_nil] at q
      have hs : Sub y.F (upd y.F D (.lst us)) := fun b o e => by rw [upd_ne (ne_of_none e mk.nF)]; exact e
      refine q (.ref D) (y.wF (upd y.F D (.lst us))) H ⟨fun b o e => ?_, ?_, R.sto.mono hs (.refl _) fun b hb o e => e, R.nd, fun b hb => ?_⟩ (.lst upd_same (mk.rep.mono hs (.refl _))) ⟨⟨st.st.F.trans hs, st.st.io, st.st.keep, st.st.there, fun b h1 h2 => ?_, st.st.newA⟩, st.a1⟩
      · have e : upd y.F D (.lst us) b = some o := e
        by_cases hbD : b = D
        · subst hbD
          rw [upd_same] at e
          cases e
          exact mk.at'
        · rw [upd_ne hbD] at e
          exact R.sub _ _ e
      · show Vars pw _ _ _ _ _ y.A1
        rw [st.a1]
        exact R1.vars.mono (st.st.F.trans hs) st.st.io fun b hb o e => st.st.keep b o e fun z => (List.nodup_append.mp R1.nd).2.2 b hb b z rfl
      · show upd y.F D (.lst us) b = none
        rw [upd_ne (fun e => mk.nA (by rw [← e]; exact hb))]
        exact R.nF b hb
      · have h2 : upd y.F D (.lst us) b ≠ none := h2
        by_cases hbD : b = D
        · subst hbD; exact .inl hD
        · rw [upd_ne hbD] at h2
          exact st.st.newF b h1 h2
theorem de_lc {X : Cx} {w : Wi} {elt tg iter : Expr} {ifs : List Expr} {scope : Scope} {pos : Pos} {i : SL} {g : Gm} {t : SB} {f : SE} {ws : List Nat} (own : List (Str × Nat)) (hc : X.calm = true) (hN : X.N.Nodup) (hi : DI X w tg iter i) (ok : BlkOk X.N X.env.scope scope own)
    (hg : ∀ (s : Shared) (H : Hp) (C : Addr) (cl : List (Str × Addr)) (fp : List Addr), DG (X.blk s H scope (compEnvC scope cl C X.env) fp) tg ws g) (ht : ∀ (s : Shared) (H : Hp) (C : Addr) (cl : List (Str × Addr)) (fp : List Addr), DTs (X.blk s H scope (compEnvC scope cl C X.env) fp) w.no ifs t)
    (he : ∀ (s : Shared) (H : Hp) (C : Addr) (cl : List (Str × Addr)) (fp : List Addr), DE (X.blk s H scope (compEnvC scope cl C X.env) fp) w.no elt f) (hw : ∀ i ∈ ws, i ∈ own.map (·.2) := by decide) (hs : ∀ x, foldedSetIterable iter X.env x = pure x := by intro _; rfl) :
    DE X w (.ListComp elt [⟨tg, iter, ifs, 0⟩] scope pos) (sLc (own.map (·.2)) i g t f) :=
  PE.imp (pe_lc hc hN hi ok hg ht he hs) fun s H Q q => lc_rd hw s H Q q
/-- y = [..], y a local -/
theorem ds_setLc {X : Cx} {w : Wi} {k : Nat} {y : Str} {py : Pos} {elt tg iter : Expr} {ifs : List Expr} {scope : Scope} {pos spos : Pos} {i : SL} {g : Gm} {t : SB} {f : SE} {ws : List Nat} (own : List (Str × Nat)) (hc : X.calm = true) (hN : X.N.Nodup) (hy : X.N[k]? = some y) (hyl : X.env.scope.names.lookup y = some .local)
    (hsw : swapsWith (.ListComp elt [⟨tg, iter, ifs, 0⟩] scope pos) (some (.Name y py)) spos.line X.env = pure true) (hi : DI X w tg iter i) (ok : BlkOk X.N X.env.scope scope own)
    (hg : ∀ (s : Shared) (H : Hp) (C : Addr) (cl : List (Str × Addr)) (fp : List Addr), DG (X.blk s H scope (compEnvC scope cl C X.env) fp) tg ws g) (ht : ∀ (s : Shared) (H : Hp) (C : Addr) (cl : List (Str × Addr)) (fp : List Addr), DTs (X.blk s H scope (compEnvC scope cl C X.env) fp) w.no ifs t)
    (he : ∀ (s : Shared) (H : Hp) (C : Addr) (cl : List (Str × Addr)) (fp : List Addr), DE (X.blk s H scope (compEnvC scope cl C X.env) fp) w.no elt f) (hw : ∀ i ∈ ws, i ∈ own.map (·.2) := by decide) (hs : ∀ x, foldedSetIterable iter X.env x = pure x := by intro _; rfl) :
    DS X w (.Assign [.Name y py] (.ListComp elt [⟨tg, iter, ifs, 0⟩] scope pos) spos) (sAsg (gN k) (sLc (own.map (·.2)) i g t f)) :=
  PS.imp (ps_setLc hc hN hy hyl hsw hi ok hg ht he hs) fun E s H ⟨x, r, m, R, q⟩ => by
    have h : rd (PV (pw := pwOf X)) w (sLc (own.map (·.2)) i g t f) s H fun v H1 => L2.gName k v s H1 E.nx := by
      refine rd_bindS R q fun d m1 v y H1 R1 p1 st1 q1 => ?_
      obtain ⟨z, R', e1, e2, e3, e4⟩ := R1.putV k p1
      exact FinS.shift (.same e1 e2 e3 fun b hb => .inl (e4 b hb)) q1 _ z H1 R' .refl
    exact lc_rd hw s H _ h
end
end Dl
set_option autoImplicit true
/-! The data layer: defs and their calls. -/
namespace Dl
open PySem PySem.Spec PyProof.Rows L2 TL

/-- what is held in common: the classes' places, their fields' names -/
structure Tf where
  T : Nat → Addr
  fld : Nat → Str
def Tf.wi (t : Tf) (E : XK) : Wi := ⟨t.T, t.fld, fun cls d _ H => E cls d H⟩
abbrev Wi.tf (w : Wi) : Tf := ⟨w.T, w.fld⟩
abbrev Fd := List D → Sto → R D
/-- a def's promise -/
def spF (pw : PWd) (t : Tf) (n : Nat) (φ : Fd) : Sp := fun vs H Q E => vs.length = n ∧ ∃ (x : Sx pw) (m : Sto) (ds : List D), Rel x [] m [] H ∧ Reps x.F x.io ds vs ∧ Fin PV (t.wi E) x [] [] H Q (φ ds m)
def startE (N : List Str) (ds : List D) : Env := ds.map (fun d => some (.val d)) ++ List.replicate (N.length - ds.length) none
/-- how a body's end is a call's -/
def ofFl : Fl → R D
  | .nx _ m => .ok .non m
  | .rt d m => .ok d m
  | .exc c v _ m => .exc c v m
  | _ => .bad
def fD (N : List Str) (b : SS) : Fd := fun ds m => ofFl (b (startE N ds) m)
def callF (n : Nat) (φ : Fd) : Fd := fun ds m => if ds.length = n then φ ds m else .bad
section
variable {x y z : Sx pw} {r r' : Env} {m m' : Sto} {s s' : L2.St} {H H' H1 : Hp}
theorem Stp.a1 {A B : List Addr} (h : Stp x.A2 x H y H') : Stp x.A2 (x.w1 (A)) H (y.w1 (B)) H' := ⟨h.F, h.io, h.keep, h.there, h.newF, h.newA⟩
theorem Vars.no_xd {F : Hp} {io : List Addr} : ∀ {r : Env} {s : L2.St} {A : List Addr}, Vars pw F io H r s A → ∀ b ∈ A, ∀ l, H b ≠ some (.xd l)
  | _, _, _, .nil => fun b hb => by cases hb
  | _, _, _, .skip t => Vars.no_xd t
  | _, _, _, .cons c t => fun b hb l e => by
    rcases List.mem_append.mp hb with q | q
    · cases c with
      | val p => cases q
      | lst e1 p =>
        have q := List.mem_singleton.mp q
        subst q
        rw [e1] at e
        cases e
      | dct e1 p =>
        have q := List.mem_singleton.mp q
        subst q
        rw [e1] at e
        cases e
    · exact Vars.no_xd t b q l e
/-- an expression's end, the slots put back -/
theorem Fin.out {w w' : Wi} (hT : w'.T = w.T) (hf : w'.fld = w.fld) {Q : VK} {a : R D} (R : Rel x r m s H) (hW : ∀ cls d H', w.W cls d s H' → w'.W cls d [] H') (h : Fin PV w x r s H Q a) : Fin PV w' (x.w1 ([])) [] [] H Q a := by
  have conv : ∀ {z : Sx pw} {H' : Hp}, StE (x.w1 ([])) H z H' → Stp x.A2 x H z H' := fun st => ⟨st.st.F, st.st.io, st.st.keep, st.st.there, st.st.newF, st.st.newA⟩
  cases a with
  | ok d m' =>
    intro v z H' Rz p st
    obtain ⟨R', st'⟩ := R.back (conv st) Rz
    exact h v (z.w1 (x.A1)) H' R' p st'
  | exc c v m' =>
    intro cls d z H' Rz p st
    obtain ⟨R', st'⟩ := R.back (conv st) Rz
    refine hW _ _ _ (h cls d (z.w1 (x.A1)) H' R' ⟨by rw [← hT]; exact p.1, ?_⟩ st')
    rcases p.2 with q | ⟨a, u, e1, e2, e3⟩
    · exact .inl q
    · rw [hf] at e2
      exact .inr ⟨a, u, e1, e2, e3⟩
  | bad => exact h.elim
section
variable {X : Cx} {w : Wi} {k n : Nat} {f : Addr} {fd : FuncData} {ps : List Str} {φ : Fd} {nm : Str} {p pos : Pos} {e : Expr} {es : List Expr} {g : SL}
theorem rd_fn (q : rd (PV (pw := pw)) w (sCall (callF n φ) g) s H (Q := fun v H => Q v H)) {t : Tf} (ht : t = w.tf) : rd (pw := pw) (fun x H ds vs => Reps x.F x.io ds vs) w g s H fun vs H1 => spF pw t n φ vs H1 Q (WE w.W s) := by
  obtain ⟨x, r, m, R, q⟩ := q
  subst ht
  refine rd_bind R q fun ds m1 vs y H1 R1 p1 st1 q1 => ?_
  obtain ⟨hl, q1⟩ := Fin.ite q1
  refine ⟨by rw [← p1.length]; exact hl, (y.w1 ([])), m1, ds, R1.leave, p1, ?_⟩
  exact Fin.out (w := w) (w' := w.tf.wi (WE w.W s)) rfl rfl R1 (fun _ _ _ h => h) q1
/-- f(e, ..) -/
theorem de_call {t : Tf} (ht : t = w.tf) (F : FnOk X.prog X.w X.K X.mg X.base (L2.CX X.prog X.w) k f fd ps (spF (pwOf X) t n φ)) (hr : Room k X.A) (hg : Gl X nm) (hm : X.mg nm = some (.ref f)) (hk : PySem.W.keepIn X.K (.ref f) = true) (hb : Binds X.K fd ps []) (tk : L2.Takes X w.W)
    (ha : DA X w (e :: es) g) (hdb : (nm == ("__debug__" : Str)) = false := by decide) (he : starEach (e :: es) X.env = (false, eval e X.env) :: starEach es X.env := by rfl) (hpl : (backTo pos (starEach es X.env)).any (·.1) = false := by rfl) :
    DE X w (.Call (.Name nm p) (e :: es) [] pos) (sCall (callF n φ) g) :=
  PE.imp (pe_callS F hr hg hm hk hb (fun σ => passAt tk σ) ha hdb he hpl) fun s H Q q => rd_fn q ht
end
theorem start_vars {F : Hp} {io : List Addr} : ∀ {ds : List D} {vs : List V}, Reps F io ds vs → ∀ k : Nat, Vars pw F io H (ds.map (fun d => some (.val d)) ++ List.replicate k none) (vs.map some ++ List.replicate k none) []
  | _, _, .nil, k => by
    induction k with
    | zero => exact .nil
    | succ k ih => exact .skip ih
  | _, _, .cons p t, k => .cons (A0 := []) (.val p) (start_vars t k)
theorem Rel.start {N : List Str} {ds : List D} {vs : List V} (R : Rel x [] m [] H) (p : Reps x.F x.io ds vs) : Rel x (startE N ds) m (L2.start N vs) H := by
  have e : x.A1 = [] := by
    have := R.vars
    cases h : x.A1 with
    | nil => rfl
    | cons a l => rw [h] at this; cases this
  refine ⟨R.sub, ?_, R.sto, R.nd, R.nF⟩
  rw [e]
  unfold startE L2.start
  rw [p.length]
  exact start_vars p _
/-- a body's end by a call's -/
theorem FinS.of_call {w : Wi} {E : XK} {t : Tf} {N : List Str} {b : SS} {ds : List D} {Q : VK} (ht : w = t.wi E) (R : Rel x [] m [] H) (h : Fin PV (t.wi E) x [] [] H Q (fD N b ds m)) : FinS w x H { nx := fun _ H' => Q .non H', rt := Q } (b (startE N ds) m) := by
  subst ht
  have e : x.A1 = [] := by
    have := R.vars
    cases h : x.A1 with
    | nil => rfl
    | cons a l => rw [h] at this; cases this
  have conv : ∀ {z : Sx pw} {H' : Hp}, StS x H z H' → z.A1 = [] → StE x H z H' := fun st ez => ⟨by have q := st.st; rw [e, List.nil_append] at q; exact q, by rw [ez, e]⟩
  have convA : ∀ {z : Sx pw} {H' : Hp}, StS x H z H' → StE x H (z.w1 ([])) H' := fun st => ⟨by
    have q := st.st
    rw [e, List.nil_append] at q
    exact ⟨q.F, q.io, q.keep, q.there, q.newF, q.newA⟩, by show [] = x.A1; rw [e]⟩
  unfold fD at h
  cases k : b (startE N ds) m with
  | nx r' m' =>
    rw [k] at h
    intro s' z H' Rz st
    exact h .non (z.w1 ([])) H' Rz.leave .non (convA st)
  | rt d m' =>
    rw [k] at h
    intro v z H' Rz p st
    have ez : z.A1 = [] := by
      have := Rz.vars
      cases h : z.A1 with
      | nil => rfl
      | cons a l => rw [h] at this; cases this
    exact h v z H' Rz p (conv st ez)
  | bk r' m' => rw [k] at h; exact h.elim
  | ct r' m' => rw [k] at h; exact h.elim
  | exc c v r' m' =>
    rw [k] at h
    intro cls d s' z H' Rz p st
    refine h cls d (z.w1 ([])) H' Rz.leave ⟨p.1, ?_⟩ (convA st)
    exact p.2
  | bad => rw [k] at h; exact h.elim
end
section
variable {P : Program} {w : World} {K : PySem.W.Frag} {mg : Str → Option Value} {base : Heap} {x qual : Str} {st : Stmt} {f : Addr} {fd : FuncData} {N ps : List Str} {k : Nat} {t : Tf} {b : SS} {φ ψ : Fd}
/-- a def by its body -/
theorem fn_def (F : Fun K x qual st f fd) (S : FnScope N ps (defScope st))
    (hbody : ∀ (cdv : Value) (A : Around) (outer : List PySem.Env) (s : Shared) (H : Hp) (E : XK), Room k (A.deeper (envOfC qual (defScope st) s.heap.objs.size f cdv)) → DSs (cxOf (L2.CX P w) P w K mg base N qual (defScope st) f cdv A outer s H E) (t.wi E) (defBody st) b) :
    FnOk P w K mg base (L2.CX P w) (k + 1) f fd ps (spF (P, w, mg) t ps.length (fD N b)) := by
  refine F.okX S (fun vs H Q E h => h.1) fun cdv A outer s H vs Q E hr h => ⟨_, hbody cdv A outer s H E hr, ?_⟩
  obtain ⟨hl, x, m, ds, R, p, q⟩ := h
  exact ⟨x, _, m, R.start p, FinS.of_call rfl R q⟩
/-- another telling of the same -/
theorem fn_as {n : Nat} (F : FnOk P w K mg base (L2.CX P w) k f fd ps (spF pw t n φ)) (h : ∀ ds m, ds.length = n → ψ ds m = .bad ∨ ψ ds m = φ ds m) : FnOk P w K mg base (L2.CX P w) k f fd ps (spF pw t n ψ) :=
  F.imp fun vs H Q E ⟨hl, x, m, ds, R, p, q⟩ => ⟨hl, x, m, ds, R, p, by
    rcases h ds m (by rw [p.length]; exact hl) with e | e
    · rw [e] at q; exact q.elim
    · rw [e] at q; exact q⟩
end
end Dl
set_option autoImplicit true
/-! The data layer: a sign taken out of a written text, where the sign has just been read. -/
namespace Dl
open PySem PySem.Spec PyProof.Rows L2 TL
section
variable {X : Cx} {pins : List (Addr × Obj)} {σ : L2.St} {H : Hp} {s : Shared} {h' : Heap}
/-- a local name stored, its very value known -/
theorem stored {m : Str → Option Value} {i : Nat} {x : Str} {v : V} {u : Value} {k : Nat} (I : Inv X pins σ H s) (hN : X.N.Nodup) (hi : X.N[i]? = some x) (hk : X.env.scope.names.lookup x = some .local) (r : RelV v u)
    (hl : ∀ (i : Nat) (x : Str) (v : V), X.N[i]? = some x → σ[i]? = some (some v) → Vis X.env.scope x → ∃ u, RelV v u ∧ Look X.env s.heap m x u)
    (hn : s.heap.Ns X.env.locals m) (hn' : h'.Ns X.env.locals fun y => if y = x then some u else m y) (sb : Heap.SameBut X.env.locals s.heap h') : Inv X pins (σ.set i (some v)) H { s with heap := h', toks := k } := by
  have old : ∀ b o, X.s_0.heap.get? b = some o → b ≠ X.env.locals := fun b o e => Nat.ne_of_lt (Nat.lt_of_lt_of_le (Heap.lt_size e) I.ok.above)
  have lenσ : i < σ.length := by rw [I.len]; exact (List.getElem?_eq_some_iff.mp hi).1
  have out : ∀ a o, H a = some o → ∀ c, c = a ∨ H c = some (.own a) → c ≠ X.env.locals := fun a o e c hc z => by
    rcases hc with q | q
    · rw [← q, z, I.free] at e; cases e
    · rw [z, I.free] at q; cases q
  constructor
  · exact I.ok
  · exact I.os
  · exact I.bare
  · constructor
    · exact fun b o e n h1 h2 => (sb.2 b (old b o e)).trans (I.base.keep b o e n h1 h2)
    · exact fun b o e n h1 h2 => by
        obtain ⟨sl, q⟩ := I.base.slot b o e n h1 h2
        exact ⟨sl, (sb.2 b (old b o e)).trans q⟩
    · exact I.base.free
    · exact fun b o e h2 => by
        obtain ⟨o', q⟩ := I.base.there b o e h2
        exact ⟨o', (sb.2 b (old b o e)).trans q⟩
    · exact I.base.tups
    · exact I.base.frzs
    · exact I.base.tbls
  · refine ⟨_, hn', fun j y w e1 e2 e3 => ?_⟩
    by_cases hj : i = j
    · subst hj
      rw [List.getElem?_set_self lenσ] at e2
      rw [hi] at e1
      cases e1
      cases e2
      exact ⟨u, r, .inl ⟨hk, if_pos rfl⟩⟩
    · rw [List.getElem?_set_ne hj] at e2
      obtain ⟨u', r', q⟩ := hl j y w e1 e2 e3
      refine ⟨u', r', q.elim (fun q => .inl ⟨q.1, ?_⟩) fun q => .inr ⟨q.1, ?_⟩⟩
      · show (if y = x then some u else m y) = some u'
        rw [if_neg fun (z : y = x) => hj (nodup_ix hN hi (by rw [← z]; exact e1))]
        exact q.2
      · obtain ⟨c, e4, e5⟩ := q.2
        exact ⟨c, e4, e5.sameBut sb (I.cne y c e4)⟩
  · intro y c e
    obtain ⟨w, q⟩ := I.cell y c e
    exact ⟨w, q.sameBut sb (I.cne y c e)⟩
  · exact I.free
  · exact I.freeC
  · intro p hp
    obtain ⟨e, q1, q2, q3⟩ := I.pin p hp
    exact ⟨(sb.2 p.1 q2).trans e, q1, q2, q3⟩
  · exact fun a o e => (I.hok a o e).stay (fun c w hc q => (sb.2 c (out a o e c hc)).trans q) (fun _ q => q) fun _ _ q => q
  · rw [List.length_set]
    exact I.len
end
/-- two statements: a sign is read and stored beside another value; then a sign of what's left without it -/
def sStrike (L : List Nat) (i j l : Nat) (fa fb fd : SE) (g : SS) : SS := fun r m => bindS r (fa r m) fun x m => match x with
  | .int k => if 0 ≤ k then match L[k.toNat]? with
    | some c => bindS r (fb r m) fun y m => bindS ((r.set i (some (.val (.str [c])))).set j (some (.val y))) (fd ((r.set i (some (.val (.str [c])))).set j (some (.val y))) m) fun z m => match z with
      | .int k2 => if 0 ≤ k2 then match (L.filter (· != c))[k2.toNat]? with
        | some c2 => g (((r.set i (some (.val (.str [c])))).set j (some (.val y))).set l (some (.val (.str [c2])))) m
        | none => .bad else .bad
      | _ => .bad
    | none => .bad else .bad
  | _ => .bad
theorem repl_filter (c : Nat) : ∀ L : List Nat, StrLaws.replL [c] [] L = L.filter (· != c)
  | [] => StrLaws.replL_nil
  | a :: L => by
    by_cases e : a = c
    · subst e
      rw [StrLaws.replL_hit (by simp) (by simp)]
      simpa using repl_filter a L
    · rw [StrLaws.replL_miss (by simpa using e), List.filter_cons_of_pos (by simpa using e), repl_filter c L]
theorem strike_is (L : List Nat) (c : Nat) : Txt.replace ⟨L.toArray⟩ ⟨#[c]⟩ ⟨#[]⟩ = ⟨(L.filter (· != c)).toArray⟩ := by
  refine ext_tl ?_
  have h := StrLaws.replace_list (x := ⟨L.toArray⟩) (y := ⟨#[c]⟩) (z := ⟨#[]⟩) (by simp [Str.length])
  show (Txt.replace ⟨L.toArray⟩ ⟨#[c]⟩ ⟨#[]⟩).cps.toList = _
  rw [h]
  simpa using repl_filter c L
section
variable {X : Cx} {w : Wi} {a b d : Expr} {fa fb fd : SE} {g : SS} {rest : List Stmt} {L : List Nat} {S1 S2 em : Str} {i j l : Nat} {n k y : Str} {j1 j2 j3 kt k2 : Nat} {c1 c2 c3 px py pt pt2 pa pos1 pz q apos cpos pd pos2 : Pos}
/-- the item at a place of a written text: its token is new -/
theorem raw_item {pins : List (Addr × Obj)} {s : Shared} {σ : L2.St} {H : Hp} {K : V → Hp → Prop} {Q : Value → Shared → Prop} (eS : S1 = ⟨L.toArray⟩) (hi : PlainIxT a) {ta : TE} (ha : PE X a ta) (I : Inv X pins σ H s) (h : ta σ H K) (hL : L.length < 1000)
    (fin : ∀ (s1 : Shared) (x : V) (H1 : Hp), Inv X pins σ H1 s1 → s.toks + 1 ≤ s1.toks → K x H1 → ∃ (z : Int) (c : Nat), x = .int z ∧ 0 ≤ z ∧ L[z.toNat]? = some c ∧ Q (.str ⟨#[c]⟩ s1.toks) { s1 with toks := s1.toks + 1 }) :
    wpAny (model X.prog X.w) X.A (eval (.Subscript (.Constant (.str S1) j1 c1) a pa) X.env) Q X.xe s := by
  refine Subscript_ (Calls.Constant_str ?_)
  refine wpAny_mono (PySem.wpAny_toks (ha.run pins { s with toks := s.toks + 1 } σ H K (I.tok _) h)) (fun u s1 q => ?_) fun _ _ z => z.2
  obtain ⟨hk, x, H1, I1, r1, q⟩ := q
  obtain ⟨z, c, rfl, h0, hc, q⟩ := fin s1 x H1 I1 hk q
  obtain ⟨t', rfl⟩ := r1
  have hlt : z.toNat < L.length := (List.getElem?_eq_some_iff.mp hc).1
  subst eS
  have h1 : z < ((⟨L.toArray⟩ : Str).length : Int) := by
    show z < ((L.toArray.size : Nat) : Int)
    rw [List.size_toArray]
    omega
  have e : seqIndex? z (⟨L.toArray⟩ : Str).length = some z.toNat := PySem.StrLaws.seqIndex_nonneg h0 h1
  exact tail_any (typeIs_str s1 _ _) slot_str_getitem.lookup (getItem_str (c := c) (by
    have e1 : decide (z < -(2 ^ 63 : Int)) = false := decide_eq_false (by omega)
    have e2 : decide (z ≥ 2 ^ 63) = false := decide_eq_false (by omega)
    rw [e1, e2] <;> rfl) (by rw [e]; show L.toArray[z.toNat]? = _; simpa using hc) q) (hi _ _)
theorem dss_strike (eS1 : S1 = ⟨L.toArray⟩) (eS2 : S2 = ⟨L.toArray⟩) (eE : em = ⟨#[]⟩) (hL : L.length < 1000) (hc : X.calm = true) (hN : X.N.Nodup) (hi : X.N[i]? = some n) (hj : X.N[j]? = some k) (hl : X.N[l]? = some y) (hij : i ≠ j)
    (hx : X.env.scope.names.lookup n = some .local) (hy : X.env.scope.names.lookup k = some .local) (hz : X.env.scope.names.lookup y = some .local) (ia : PlainIxT a) (id' : PlainIxT d) (ha : DK X w a fa) (hb : DE X w b fb) (hd : DK X w d fd) (hr : DSs X w rest g)
    (hw : swappedStores [.Tuple [.Name n px, .Name k py] kt pt] (.Tuple [.Subscript (.Constant (.str S1) j1 c1) a pa, b] k2 pt2) X.env = pure (some [n, k]))
    (hs : swapsWithSole [.Tuple [.Name n px, .Name k py] kt pt] (.Tuple [.Subscript (.Constant (.str S1) j1 c1) a pa, b] k2 pt2) pos1.line X.env = pure false := by rfl)
    (h1 : starEach [.Subscript (.Constant (.str S1) j1 c1) a pa, b] X.env = (false, eval (.Subscript (.Constant (.str S1) j1 c1) a pa) X.env) :: starEach [b] X.env := by rfl) (h2 : starEach [b] X.env = [(false, eval b X.env)] := by rfl)
    (hst : starEach [.Name n q, .Constant (.str em) j3 c3] X.env = [(false, eval (.Name n q) X.env), (false, eval (.Constant (.str em) j3 c3) X.env)] := by rfl)
    (hbase : attributeBase (.Constant (.str S2) j2 c2) "replace" X.env (eval (.Constant (.str S2) j2 c2) X.env) = eval (.Constant (.str S2) j2 c2) X.env := by rfl) (hline : (apos.endLine == cpos.line) = true := by rfl)
    (hsw : swapsWith (.Subscript (.Call (.Attribute (.Constant (.str S2) j2 c2) "replace" apos) [.Name n q, .Constant (.str em) j3 c3] [] cpos) d pd) (some (.Name y pz)) pos2.line X.env = pure false := by rfl)
    (hdd : (n == ("__debug__" : Str)) = false := by decide) :
    DSs X w (.Assign [.Tuple [.Name n px, .Name k py] kt pt] (.Tuple [.Subscript (.Constant (.str S1) j1 c1) a pa, b] k2 pt2) pos1 ::
      .Assign [.Name y pz] (.Subscript (.Call (.Attribute (.Constant (.str S2) j2 c2) "replace" apos) [.Name n q, .Constant (.str em) j3 c3] [] cpos) d pd) pos2 :: rest) (sStrike L i j l fa fb fd g) := by
  refine ⟨fun pins s σ H E I ⟨x0, r, m, R, qq⟩ => ?_⟩
  refine wpAny_execs_cons ?_
  rw [exec_Assign_arm]
  refine wpAny_bind (wpAny_standAt ?_)
  rw [hs]
  refine wpAny_bind (wpAny_pure ?_)
  rw [if_neg (by decide)]
  refine wpAny_bind (Tuple_ ?_)
  rw [h1, h2]
  refine Calls.spliced_cons ?_
  -- what is to be done behind a, b, d
  obtain ⟨k3, hk3⟩ : ∃ k3 : Env → Nat → D → Sto → Fl, k3 = fun r' c z m => match z with
      | .int k2 => if 0 ≤ k2 then match (L.filter (· != c))[k2.toNat]? with
        | some c2 => g (r'.set l (some (.val (.str [c2])))) m
        | none => .bad else .bad
      | _ => .bad := ⟨_, rfl⟩
  obtain ⟨k1, hk1⟩ : ∃ k1 : D → Sto → Fl, k1 = fun x m => match x with
    | .int z => if 0 ≤ z then match L[z.toNat]? with
      | some c => bindS r (fb r m) fun y m => bindS ((r.set i (some (.val (.str [c])))).set j (some (.val y))) (fd ((r.set i (some (.val (.str [c])))).set j (some (.val y))) m) fun z m => k3 ((r.set i (some (.val (.str [c])))).set j (some (.val y))) c z m
      | none => .bad else .bad
    | _ => .bad := ⟨_, rfl⟩
  have qq : FinS w x0 H E (bindS r (fa r m) k1) := by
    rw [hk1, hk3]
    exact qq
  refine raw_item eS1 ia ha I (K := fun v H1 => ∃ dx m1 y1, Rel y1 r m1 σ H1 ∧ Pk y1 H1 dx v ∧ FinS w y1 H1 E (k1 dx m1)) (rd_bindS R qq fun dx m1 v y1 H1 R1 p1 st1 q1 => ⟨dx, m1, y1, R1, p1, q1⟩) hL fun s1 v H1 I1 tk1 ⟨dx, m1, y1, R1, p1, q1⟩ => ?_
  cases dx with
  | int z =>
    have ev := p1.int
    subst ev
    rw [hk1] at q1
    have q1 : FinS w y1 H1 E (if 0 ≤ z then match L[z.toNat]? with
      | some c => bindS r (fb r m1) fun y m => bindS ((r.set i (some (.val (.str [c])))).set j (some (.val y))) (fd ((r.set i (some (.val (.str [c])))).set j (some (.val y))) m) fun z m => k3 ((r.set i (some (.val (.str [c])))).set j (some (.val y))) c z m
      | none => .bad else .bad) := q1
    obtain ⟨h0, q1⟩ := FinS.ite q1
    cases ec : L[z.toNat]? with
    | none => rw [ec] at q1; exact q1.elim
    | some c =>
      rw [ec] at q1
      refine ⟨z, c, rfl, h0, ec, ?_⟩
      -- the second
      have I1' : Inv X pins σ H1 { s1 with toks := s1.toks + 1 } := I1.tok _
      have hb' := rd_bindS R1 q1 fun dy m2 v2 y2 H2 R2 p2 st2 q2 => (⟨dy, m2, y2, R2, p2, q2⟩ : ∃ dy m2 y2, Rel y2 r m2 σ H2 ∧ Rep y2.F y2.io dy v2 ∧ FinS w y2 H2 E (bindS ((r.set i (some (.val (.str [c])))).set j (some (.val dy))) (fd ((r.set i (some (.val (.str [c])))).set j (some (.val dy))) m2) fun z m => k3 ((r.set i (some (.val (.str [c])))).set j (some (.val dy))) c z m))
      refine Calls.spliced_cons (wpAny_mono (PySem.wpAny_toks (hb.run pins { s1 with toks := s1.toks + 1 } σ H1 _ I1' hb')) (fun u2 s2 q => ?_) fun _ _ z => z.2)
      obtain ⟨tk2, v2, H2, I2, rv2, dy, m2, y2, R2, p2, q2⟩ := q
      have tk2 : s1.toks + 1 ≤ s2.toks := tk2
      refine Calls.spliced_nil ?_
      refine wpAny_newObj_type ?_ (by show 2 ≤ sizeLine; decide)
      have I3 : Inv X pins σ H2 { s2 with heap := s2.heap.push { cls := .type "tuple", data := .seq [.str ⟨#[c]⟩ s1.toks, u2].toArray } } := I2.kept (t' := s2.toks) fun b o e => Heap.get?_push_of_some _ e
      rw [hw]
      refine wpAny_bind (wpAny_pure ?_)
      show wpAny (model X.prog X.w) X.A (do rule "assign.swapped-stores"; let items ← unpackItems (.ref s2.heap.objs.size) 2 none; assignInOrder [fun v => bindName X.env k v, fun v => bindName X.env n v] items.reverse; pure Flow.next) _ _ _
      refine wpAny_bind (wpAny_rule (wpAny_bind (unpackItems_tuple (items := #[.str ⟨#[c]⟩ s1.toks, u2]) (I.ok.hd hc) (IsTup.new s2.heap _) fun h' hx' => ?_)))
      have I4 := I3.kept (h' := h') (t' := s2.toks) fun b o e => hx' b o (Nat.ne_of_lt (Heap.lt_size e)) e
      show wpAny _ _ (assignInOrder [fun v => bindName X.env k v, fun v => bindName X.env n v] [u2, .str ⟨#[c]⟩ s1.toks] >>= fun _ => pure Flow.next) _ _ _
      refine wpAny_bind (assignInOrder_cons (wpAny_bindName ?_))
      refine wpAny_mono (PySem.wpAny_toks (store_ok (Q := fun _ s5 => Inv X pins (σ.set j (some v2)) H2 s5) I4 hN hj (.inl hy) rv2 (fun s5 I5 => I5) (.inr hy))) (fun _ s5 q => ?_) fun _ _ z => z.2
      obtain ⟨tk5, I5⟩ := q
      have tk5 : s2.toks ≤ s5.toks := tk5
      obtain ⟨mm, hmm, hlm⟩ := id I5.loc
      have hcls : (X.env.scope.kind == .class || (X.env.scope.kind == .module && X.env.locals != X.env.globals)) = false := by rw [I5.ok.kind]; rfl
      refine assignInOrder_cons (wpAny_bindName (wpAny_storeName_local hx hmm (fun h6 hn6 sb6 => ?_) hcls))
      have I6 : Inv X pins ((σ.set j (some v2)).set i (some (.str ⟨#[c]⟩))) H2 { s5 with heap := h6, toks := s5.toks + 1 } := stored I5 hN hi hx ⟨s1.toks, rfl⟩ hlm hmm hn6 sb6
      rw [List.set_comm _ _ (Ne.symm hij)] at I6
      refine assignInOrder_nil (wpAny_pure ?_)
      show wpAny _ _ (execs (_ :: rest) X.env) _ _ _
      -- the third
      obtain ⟨y3, R3, e1, e2, e3, e4⟩ := R2.putV (d := .str [c]) (v := .str ⟨#[c]⟩) i (.str [c])
      obtain ⟨y4, R4, f1, f2, f3, f4⟩ := R3.putV (d := dy) (v := v2) j (by rw [e1, e2]; exact p2)
      have st4 : StS y2 H2 y4 H2 := (StS.same e1 e2 e3 fun b hb => .inl (e4 b hb)).trans (.same f1 f2 f3 fun b hb => .inl (f4 b hb))
      have q4 := FinS.shift st4 q2
      refine wpAny_execs_cons (wpAny_Assign_Name (Subscript_ ?_) hsw)
      refine PySem.Call_method2 hbase hst hline (Calls.Constant_str ?_)
      refine ⟨"str", _, PySem.F.plainAttrs_str, PySem.F.slot_str_replace, PySem.F.type_str_replace, typeIs_str _ _ _, (fun _ e => nomatch e), Calls.callWith_builtin rfl (Calls.evalArgs_plain (Calls.spliced_cons ?_))⟩
      refine wpAny_Name (wpAny_loadName_local I6.ok.kind hx hn6 (if_pos rfl) ?_) hdd
      refine Calls.spliced_cons (Calls.Constant_str (Calls.spliced_nil ?_))
      subst eS2 eE
      refine PySem.SC.replace (by show s1.toks ≠ 0; omega) (by show s5.toks + 1 + 1 ≠ 0; omega) (by show s1.toks ≠ s5.toks + 1 + 1; omega) (by simp) (by simp [Str.length]; omega) fun t' tk' => ?_
      rw [strike_is]
      have I7 : Inv X pins ((σ.set i (some (.str ⟨#[c]⟩))).set j (some v2)) H2 { s5 with heap := h6, toks := tk' } := I6.tok tk'
      have hd' := rd_bindS R4 q4 fun dz m3 v3 y5 H3 R5 p5 st5 q5 => (⟨dz, m3, y5, R5, p5, q5⟩ : ∃ dz m3 y5, Rel y5 ((r.set i (some (.val (.str [c])))).set j (some (.val dy))) m3 ((σ.set i (some (.str ⟨#[c]⟩))).set j (some v2)) H3 ∧ Pk y5 H3 dz v3 ∧ FinS w y5 H3 E (k3 ((r.set i (some (.val (.str [c])))).set j (some (.val dy))) c dz m3))
      refine thn (hd.run pins _ _ H2 _ I7 hd') fun u3 s8 ⟨v3, H3, I8, rv3, dz, m3, y5, R5, p5, q5⟩ => ?_
      cases dz with
      | int z2 =>
        have ev := p5.int
        subst ev
        obtain ⟨t3, rfl⟩ := rv3
        rw [hk3] at q5
        have q5 : FinS w y5 H3 E (if 0 ≤ z2 then match (L.filter (· != c))[z2.toNat]? with
          | some c2 => g (((r.set i (some (.val (.str [c])))).set j (some (.val dy))).set l (some (.val (.str [c2])))) m3
          | none => .bad else .bad) := q5
        obtain ⟨h02, q5⟩ := FinS.ite q5
        cases ec2 : (L.filter (· != c))[z2.toNat]? with
        | none => rw [ec2] at q5; exact q5.elim
        | some c4 =>
          rw [ec2] at q5
          have hlt : z2.toNat < (L.filter (· != c)).length := (List.getElem?_eq_some_iff.mp ec2).1
          have hle : (L.filter (· != c)).length ≤ L.length := List.length_filter_le ..
          have h5 : z2 < ((⟨(L.filter (· != c)).toArray⟩ : Str).length : Int) := by
            show z2 < (((L.filter (· != c)).toArray.size : Nat) : Int)
            rw [List.size_toArray]
            omega
          have e : seqIndex? z2 (⟨(L.filter (· != c)).toArray⟩ : Str).length = some z2.toNat := PySem.StrLaws.seqIndex_nonneg h02 h5
          refine tail_any (typeIs_str s8 _ _) slot_str_getitem.lookup (getItem_str (c := c4) (by
            have e1 : decide (z2 < -(2 ^ 63 : Int)) = false := decide_eq_false (by omega)
            have e2 : decide (z2 ≥ 2 ^ 63) = false := decide_eq_false (by omega)
            rw [e1, e2] <;> rfl) (by rw [e]; show (L.filter (· != c)).toArray[z2.toNat]? = _; simpa using ec2) ?_) (id' _ _)
          refine store_ok (v := V.str ⟨#[c4]⟩) (I8.tok (s8.toks + 1)) hN hl (.inl hz) ⟨s8.toks, rfl⟩ (fun s9 I9 => ?_) (.inr hz)
          obtain ⟨y6, R6, g1, g2, g3, g4⟩ := R5.putV (d := .str [c4]) (v := .str ⟨#[c4]⟩) l (.str [c4])
          exact hr.run pins s9 _ H3 E I9 ⟨y6, _, m3, R6, FinS.shift (.same g1 g2 g3 fun b hb => .inl (g4 b hb)) q5⟩
      | _ => rw [hk3] at q5; exact q5.elim
  | _ => rw [hk1] at q1; exact q1.elim
end
end Dl
set_option autoImplicit true
/-! The data layer: methods of texts, str(..), isinstance. -/
namespace Dl
open PySem PySem.Spec PyProof.Rows L2 TL

/-- the type by which a method is found -/
def kD : D → String
  | .str _ => "str"
  | .int _ => "int"
  | .lst _ => "list"
  | _ => ""
theorem tyV_of {K : PySem.W.Frag} {T : String} {x : Sx pw} {e : Env} {m : Sto} {s : L2.St} {H : Hp} {d : D} {v : V} (R : Rel x e m s H) (p : Pk x H d v) (h : kD d = T) (hT : T ≠ "" := by decide) : tyV K T v H := by
  subst h
  cases d with
  | str z =>
    have e := p.str
    subst e
    exact rfl
  | int z =>
    have e := p.int
    subst e
    exact rfl
  | lst l =>
    obtain ⟨a, vs, rfl, ha, q⟩ := p.lst R
    exact .inl ⟨rfl, vs, SqL.of ha⟩
  | _ => exact absurd rfl hT
/-- o.name(e, ..) of a built-in type -/
def sMeth (T : String) (f : D → List D → Sto → R D) (fo : SE) (g : SL) : SE := fun r m => bindR (fo r m) fun d m => if kD d = T then bindR (g r m) fun ds m => f d ds m else .bad
def CmM (pw : PWd) (w : Wi) (f : D → List D → Sto → R D) (r : V → List V → Hp → VK → Prop) : Prop := ∀ (x : Sx pw) (e : Env) (m : Sto) (s : L2.St) (H : Hp) (Q : VK) (d : D) (v : V) (ds : List D) (vs : List V), Rel x e m s H → Pk x H d v → Pks x H ds vs → Fin PV w x e s H Q (f d ds m) → r v vs H Q
section
variable {X : Cx} {w : Wi} {a o e : Expr} {es : List Expr} {pos p apos cpos : Pos} {fa fo : SE} {g : SL} {T id : String} {r : V → List V → Hp → VK → Prop} {f : D → List D → Sto → R D} {name : Str}
theorem rd_meth (hT : T ≠ "") (h : CmM pw w f r) (s : L2.St) (H : Hp) (Q : VK) (q : rd (PV (pw := pw)) w (sMeth T f fo g) s H Q) : tBM X.K T r (rd (Pk (pw := pw)) w fo) (rd (pw := pw) (fun x H ds vs => Pks x H ds vs) w g) s H Q := by
  obtain ⟨x, e, m, R, q⟩ := q
  refine rd_bind R q fun d m1 v y H1 R1 p1 st1 q1 => ?_
  obtain ⟨hk, q1⟩ := Fin.ite q1
  refine ⟨tyV_of R1 p1 hk hT, rd_bind R1 q1 fun ds m2 vs z H2 R2 p2 st2 q2 => ?_⟩
  exact h z e m2 s H2 Q d v ds vs R2 (p1.stay R1 st2) p2 q2
theorem de_bm (pa : PlainAttrs T) (slot : Slot T name id) (hty : typeOf (.builtin id) = pure (.type "method_descriptor")) (hm : MtR X id r) (h : CmM (pwOf X) w f r) (ho : DK X w o fo) (ha : DAk X w (e :: es) g) (hT : T ≠ "" := by decide)
    (hbase : attributeBase o name X.env (eval o X.env) = eval o X.env := by rfl)
    (hfew : ((backTo cpos (starEach (e :: es) X.env)).all (fun x => !x.1) && (backToKw cpos (keywordEach [] X.env)).all (fun x => x.1.isSome)
      && decide ((e :: es).length + ([] : List Keyword).length + (if ([] : List Keyword).isEmpty then 0 else 1) < 30)) = true := by rfl)
    (hline : (apos.endLine == cpos.line) = true := by rfl) (hs : starEach (e :: es) X.env = (false, eval e X.env) :: starEach es X.env := by rfl) (hplain : (backTo cpos (starEach es X.env)).any (·.1) = false := by rfl) :
    DE X w (.Call (.Attribute o name apos) (e :: es) [] cpos) (sMeth T f fo g) :=
  PE.imp (pe_bm pa slot hty hm ho ha hbase hfew hline hs hplain) fun s H Q q => rd_meth hT h s H Q q
/-- texts of values -/
def strsD : List D → Option (List (List Nat))
  | [] => some []
  | .str z :: l => (strsD l).map (z :: ·)
  | _ => none
@[simp] theorem strsD_map (l : List (List Nat)) : strsD (l.map D.str) = some l := by
  induction l with
  | nil => rfl
  | cons i l ih =>
    show (strsD (l.map D.str)).map (i :: ·) = _
    rw [ih]
    rfl
def mkS (z : List Nat) : Str := ⟨z.toArray⟩
theorem strs_reps {F : Hp} {io : List Addr} : ∀ {l : List D} {vs : List V} {ns : List (List Nat)}, Reps F io l vs → strsD l = some ns → vs = (ns.map mkS).map V.str
  | [], _, _, .nil, e => by
    cases e
    rfl
  | d :: l, _, ns, .cons r t, e => by
    cases d with
    | str i =>
      cases r
      cases k : strsD l with
      | none =>
        have e : (strsD l).map (i :: ·) = some ns := e
        rw [k] at e
        cases e
      | some ms =>
        have e : (strsD l).map (i :: ·) = some ns := e
        rw [k] at e
        cases e
        rw [strs_reps t k]
        rfl
    | _ => cases e
def joinD (a : List Nat) (ps : List (List Nat)) (m : Sto) : R D := if (ps.map List.length).sum + ps.length * a.length ≤ LIM then .ok (.str (joinL a ps)) m else .bad
def fJoin : D → List D → Sto → R D
  | .str a, [.lst l], m => match strsD l with
    | some ps => joinD a ps m
    | none => .bad
  | .str a, [.tup l], m => match strsD l with
    | some ps => joinD a ps m
    | none => .bad
  | _, _, _ => .bad
theorem join_mk (a : List Nat) (ps : List (List Nat)) : Txt.join (mkS a) (ps.map mkS) = mkS (joinL a ps) := by
  refine ext_tl ?_
  rw [join_eq, tl_join]
  have e : (ps.map mkS).map tl = ps := by
    rw [List.map_map]
    exact List.map_id'' (fun z => rfl) ps
  rw [e]
  rfl
theorem sum_mk (ps : List (List Nat)) : ((ps.map mkS).map (·.length)).sum = (ps.map List.length).sum := by
  rw [List.map_map]
  exact congrArg List.sum (List.map_congr_left fun z _ => str_len z)
theorem cm_join : CmM pw w fJoin (fun x xs H Q => ∃ a p, ∃ ys : List Str, x = .str a ∧ xs = [.ref p] ∧ (SqL X.K H p (ys.map V.str) ∨ SqT X.K H p (ys.map V.str)) ∧
    (ys.map (·.length)).sum + ys.length * a.length ≤ 16777216 ∧ Q (.str (Txt.join a ys)) H) := by
  intro x e m s H Q d v ds vs R pd ps h
  unfold fJoin at h
  split at h
  · rename_i a l
    have ed := pd.str
    subst ed
    obtain ⟨v, rfl, pa⟩ := ps.one
    obtain ⟨p, us, rfl, hp, q⟩ := pa.lst R
    cases k : strsD l with
    | none => rw [k] at h; exact h.elim
    | some zs =>
      rw [k] at h
      obtain ⟨hz, h⟩ := Fin.ite h
      have e := strs_reps q k
      subst e
      refine ⟨mkS a, p, zs.map mkS, rfl, rfl, .inl (SqL.of hp), ?_, ?_⟩
      · rw [sum_mk, List.length_map]
        show _ + _ * (mkS a).length ≤ LIM
        rw [show (mkS a).length = a.length from str_len a]
        exact hz
      · rw [join_mk]
        exact Fin.here R h (.str _)
  · rename_i a l
    have ed := pd.str
    subst ed
    obtain ⟨v, rfl, pa⟩ := ps.one
    obtain ⟨p, us, rfl, _, hp, q⟩ := pa.tup R
    cases k : strsD l with
    | none => rw [k] at h; exact h.elim
    | some zs =>
      rw [k] at h
      obtain ⟨hz, h⟩ := Fin.ite h
      have e := strs_reps q k
      subst e
      refine ⟨mkS a, p, zs.map mkS, rfl, rfl, .inr (SqT.of hp), ?_, ?_⟩
      · rw [sum_mk, List.length_map]
        show _ + _ * (mkS a).length ≤ LIM
        rw [show (mkS a).length = a.length from str_len a]
        exact hz
      · rw [join_mk]
        exact Fin.here R h (.str _)
  · exact h.elim
theorem de_join (ho : DK X w o fo) (ha : DK X w a fa) (hs : starEach [a] X.env = [(false, eval a X.env)] := by rfl) (hbase : attributeBase o "join" X.env (eval o X.env) = eval o X.env := by rfl)
    (hfew : ((backTo cpos (starEach [a] X.env)).all (fun x => !x.1) && (backToKw cpos (keywordEach [] X.env)).all (fun x => x.1.isSome)
      && decide ([a].length + ([] : List Keyword).length + (if ([] : List Keyword).isEmpty then 0 else 1) < 30)) = true := by rfl)
    (hline : (apos.endLine == cpos.line) = true := by rfl) (hpl : (backTo cpos (starEach [] X.env)).any (·.1) = false := by rfl) : DE X w (.Call (.Attribute o "join" apos) [a] [] cpos) (sMeth "str" fJoin fo (aCons fa aNil)) :=
  de_bm PySem.F.plainAttrs_str PySem.F.slot_str_join PySem.F.type_str_join mt_join cm_join ho (dk_cons ha dk_nil hs) (by decide) hbase hfew hline hs hpl
/-- a text cut at a sign -/
def fSplit : D → List D → Sto → R D
  | .str a, [.str [c]], m => if a.length + 2 ≤ LIM ∧ c < 256 then .ok (.lst ((spl [c] 0 [] a).map D.str)) m else .bad
  | _, _, _ => .bad
theorem split_mk (a : List Nat) (c : Nat) (hc : c < 256) : Txt.split (mkS a) (mkS [c]) = (spl [c] 0 [] a).map mkS := by
  refine map_tl_inj ?_
  rw [split_spl (mkS a) (mkS [c]) (by simp [mkS, tl]) (kind_ok (by simp [mkS, hc])), List.map_map]
  show spl [c] 0 [] a = _
  exact (List.map_id'' (fun z => rfl) _).symm
theorem reps_strs {F : Hp} {io : List Addr} : ∀ l : List (List Nat), Reps F io (l.map D.str) ((l.map mkS).map V.str)
  | [] => .nil
  | z :: l => .cons (.str z) (reps_strs l)
theorem cm_split : CmM pw w fSplit (fun x xs H Q => ∃ a b, x = .str a ∧ xs = [.str b] ∧ (b.length == 0) = false ∧ a.length + 2 ≤ sizeLine ∧ rNewStrs (Txt.split a b) H Q) := by
  intro x e m s H Q d v ds vs R pd ps h
  unfold fSplit at h
  split at h
  · rename_i a c
    have ed := pd.str
    subst ed
    obtain ⟨v, rfl, pa⟩ := ps.one
    have ea := pa.str
    subst ea
    obtain ⟨⟨hz, hc⟩, h⟩ := Fin.ite h
    refine ⟨mkS a, mkS [c], rfl, rfl, by simp [mkS, Str.length], ?_, ?_⟩
    · rw [show (mkS a).length = a.length from str_len a, ← lim_eq]
      exact hz
    · unfold rNewStrs
      rw [split_mk a c hc]
      exact Fin.list R h (reps_strs _)
  · exact h.elim
theorem de_split (ho : DK X w o fo) (ha : DK X w a fa) (hs : starEach [a] X.env = [(false, eval a X.env)] := by rfl) (hbase : attributeBase o "split" X.env (eval o X.env) = eval o X.env := by rfl)
    (hfew : ((backTo cpos (starEach [a] X.env)).all (fun x => !x.1) && (backToKw cpos (keywordEach [] X.env)).all (fun x => x.1.isSome)
      && decide ([a].length + ([] : List Keyword).length + (if ([] : List Keyword).isEmpty then 0 else 1) < 30)) = true := by rfl)
    (hline : (apos.endLine == cpos.line) = true := by rfl) (hpl : (backTo cpos (starEach [] X.env)).any (·.1) = false := by rfl) : DE X w (.Call (.Attribute o "split" apos) [a] [] cpos) (sMeth "str" fSplit fo (aCons fa aNil)) :=
  de_bm PySem.F.plainAttrs_str PySem.F.slot_str_split PySem.F.type_str_split mt_split cm_split ho (dk_cons ha dk_nil hs) (by decide) hbase hfew hline hs hpl

/-! ### str(..) -/
def decD (i : Int) : List Nat := (toString i : String).toList.map Char.toNat
def fText : List D → Sto → R D
  | [.int i], m => if i.natAbs.log2 < 1920 then .ok (.str (decD i)) m else .bad
  | [.str z], m => .ok (.str z) m
  | _, _ => .bad
theorem ca_text : CaD pw w fText (fun xs H Q => (∃ i, xs = [.int i] ∧ i.natAbs.log2 < 1920 ∧ Q (.str (toString i)) H) ∨ ∃ a, xs = [.str a] ∧ Q (.str a) H) := by
  intro x e m s H Q ds vs R ps h
  unfold fText at h
  split at h
  · rename_i i
    obtain ⟨v, rfl, pa⟩ := ps.one
    have ea := pa.int
    subst ea
    obtain ⟨hz, h⟩ := Fin.ite h
    refine .inl ⟨i, rfl, hz, ?_⟩
    have e : (Str.ofString (toString i) : Str) = mkS (decD i) := ext_tl (tl_ofString _)
    show Q (.str (Str.ofString (toString i))) H
    rw [e]
    exact Fin.here R h (.str _)
  · rename_i z
    obtain ⟨v, rfl, pa⟩ := ps.one
    have ea := pa.str
    subst ea
    exact .inr ⟨_, rfl, Fin.here R h (.str _)⟩
  · exact h.elim
theorem de_text (hg : Gl X "str") (hm : X.mg "str" = none) (ha : DK X w a fa) (hs : starEach [a] X.env = [(false, eval a X.env)] := by rfl) (hpl : (backTo pos (starEach [] X.env)).any (·.1) = false := by rfl) : DE X w (.Call (.Name "str" p) [a] [] pos) (sCall fText (aCons fa aNil)) :=
  de_callT (CallR.or call_str_int SkE.call_str_str) ca_text hg hm PyProof.Rows.boot_str (dk_cons ha dk_nil hs) (by decide) (by decide) hs hpl

/-! ### isinstance -/
/-- a built-in type's name -/
theorem de_ty {x : Str} {T : String} (hg : Gl X x) (hm : X.mg x = none) (hv : bootBuiltins x = some (.type T)) (hn : x ≠ "__name__" := by decide) (hd : (x == ("__debug__" : Str)) = false := by decide) : DE X w (.Name x pos) (sC (.cst (.ty T))) :=
  de_c (v := .ty T) (pe_bltn (v := .ty T) hg hm hv rfl hn hd) fun _ _ => .cst _
def tyD : D → Option String
  | .non => some "NoneType"
  | .bl _ => some "bool"
  | .int _ => some "int"
  | .str _ => some "str"
  | .tup _ => some "tuple"
  | .lst _ => some "list"
  | _ => none
def tyNs : List D → Option (List String)
  | [] => some []
  | .cst (.ty n) :: l => (tyNs l).map (n :: ·)
  | _ => none
def isiAny (a : String) : List String → Option Bool
  | [] => some false
  | b :: l => match L2.kitB a b with
    | some true => some true
    | some false => isiAny a l
    | none => none
def fIsi : List D → Sto → R D
  | [d, .cst (.ty n)], m => match tyD d with
    | some a => ofO ((L2.kitB a n).map D.bl) m
    | none => .bad
  | [d, .tup l], m => match tyD d, tyNs l with
    | some a, some ns => ofO ((isiAny a ns).map D.bl) m
    | _, _ => .bad
  | _, _ => .bad
theorem tyX_of {K : PySem.W.Frag} {x : Sx pw} {e : Env} {m : Sto} {s : L2.St} {H : Hp} {d : D} {v : V} {a : String} (R : Rel x e m s H) (p : Pk x H d v) (h : tyD d = some a) : TyX K H v (.type a) := by
  cases d with
  | non => cases h; rw [p.non]; exact .base .non
  | bl b => cases h; rw [p.bl]; exact .base (.bl _)
  | int b => cases h; rw [p.int]; exact .base (.int _)
  | str b => cases h; rw [p.str]; exact .base (.str _)
  | tup l => cases h; obtain ⟨a, vs, rfl, _, ha, _⟩ := p.tup R; exact .base (.tup ha)
  | lst l => cases h; obtain ⟨a, vs, rfl, ha, _⟩ := p.lst R; exact .base (.lst ha)
  | _ => cases h
theorem tyNs_of {F : Hp} {io : List Addr} : ∀ {l : List D} {vs : List V} {ns : List String}, Reps F io l vs → tyNs l = some ns → Paired ClsV vs (ns.map Value.type)
  | [], _, _, .nil, e => by cases e; exact .nil
  | d :: l, _, ns, .cons r t, e => by
    cases d with
    | cst v =>
      cases v with
      | ty n =>
        cases r
        cases k : tyNs l with
        | none =>
          have e : (tyNs l).map (n :: ·) = some ns := e
          rw [k] at e
          cases e
        | some ms =>
          have e : (tyNs l).map (n :: ·) = some ns := e
          rw [k] at e
          cases e
          exact .cons (.ty n) (tyNs_of t k)
      | _ => cases e
    | _ => cases e
theorem isiAny_of {K : PySem.W.Frag} {a : String} : ∀ {ns : List String} {b : Bool}, isiAny a ns = some b → PySem.W.kitAny K (.type a) (ns.map Value.type) = some b
  | [], b, e => by cases e; rfl
  | n :: ns, b, e => by
    unfold isiAny at e
    cases k : L2.kitB a n with
    | none => rw [k] at e; cases e
    | some c =>
      rw [k] at e
      cases c with
      | true => cases e; exact kitAny_cons (kit_ty k) (fun z => by cases z) fun _ => rfl
      | false => exact kitAny_cons (kit_ty k) (fun _ => isiAny_of e) fun z => by cases z
theorem ca_isi (K : PySem.W.Frag) : CaD pw w fIsi (fun xs H Q => rIsi K xs H Q ∨ rIsiT K xs H Q) := by
  intro x e m s H Q ds vs R ps h
  unfold fIsi at h
  split at h
  · rename_i d n
    obtain ⟨v, v', rfl, pa, pb⟩ := ps.two
    cases ht : tyD d with
    | none => rw [ht] at h; exact h.elim
    | some a =>
      rw [ht] at h
      have h : Fin PV w x e s H Q (ofO ((L2.kitB a n).map D.bl) m) := h
      cases hk : L2.kitB a n with
      | none => rw [hk] at h; exact h.elim
      | some b =>
        rw [hk] at h
        rcases pb with q | ⟨_, _, _, e1, _⟩ | ⟨_, _, _, _, _, e1, _⟩
        · cases q
          exact .inl ⟨v, .ty n, .type a, .type n, b, rfl, .ty n, tyX_of R pa ht, kit_ty hk, Fin.here R h (.bl _)⟩
        · cases e1
        · cases e1
  · rename_i d l
    obtain ⟨v, v', rfl, pa, pb⟩ := ps.two
    cases ht : tyD d with
    | none => rw [ht] at h; exact h.elim
    | some a =>
      cases hn : tyNs l with
      | none => rw [ht, hn] at h; exact h.elim
      | some ns =>
        rw [ht, hn] at h
        have h : Fin PV w x e s H Q (ofO ((isiAny a ns).map D.bl) m) := h
        cases hk : isiAny a ns with
        | none => rw [hk] at h; exact h.elim
        | some b =>
          rw [hk] at h
          obtain ⟨tp, cs, rfl, _, hp, q⟩ := pb.tup R
          exact .inr ⟨v, tp, cs, .type a, ns.map Value.type, b, rfl, hp, tyNs_of q hn, tyX_of R pa ht, isiAny_of hk, Fin.here R h (.bl _)⟩
  · exact h.elim
theorem de_isi {b : Expr} {fb : SE} (hg : Gl X "isinstance") (hm : X.mg "isinstance" = none) (ha : DK X w a fa) (hb : DK X w b fb) (hs : starEach [a, b] X.env = (false, eval a X.env) :: starEach [b] X.env := by rfl) (hs' : starEach [b] X.env = [(false, eval b X.env)] := by rfl) (hpl : (backTo pos (starEach [b] X.env)).any (·.1) = false := by rfl) :
    DE X w (.Call (.Name "isinstance" p) [a, b] [] pos) (sCall fIsi (aCons fa (aCons fb aNil))) :=
  de_callB (CallR.or call_isi call_isiT) (ca_isi _) hg hm PyProof.Rows.boot_isinstance (dk_cons ha (dk_cons hb dk_nil hs') hs) (by decide) (by decide) hs hpl
end
end Dl
set_option autoImplicit true
/-! The data layer: the law's own draws (an object of two lists, handed on). -/
namespace Dl
open PySem PySem.Spec PyProof.Rows L2 TL

def rAdd0 : R2 := rI0 fun i j => .int (i + j)
def rMul0 : R2 := rI CMul fun i j => .int (i * j)
def rMod0 : R2 := rI (fun _ j => 0 < j) fun i j => .int (i % j)
def rDiv0 : R2 := rI CDivW fun i j => .int (i / j)
def rPow0 : R2 := rI CPow fun i j => .int (i ^ j.toNat)
def rGe0 : R2 := rI0 fun i j => .bl (decide (j ≤ i))
def rListOf (K : PySem.W.Frag) : List V → Hp → VK → Prop := fun xs H Q => ∃ p ys, xs = [.ref p] ∧ (SqL K H p ys ∨ SqT K H p ys) ∧ ∀ l, H l = none → Q (.ref l) (upd H l (.lst ys))
def rLenOf (K : PySem.W.Frag) : List V → Hp → VK → Prop := fun xs H Q => ∃ x n, xs = [x] ∧ LenV K x H n ∧ Q (.int n) H
def rMax2 : List V → Hp → VK → Prop := fun xs H Q => ∃ i j, xs = [.int i, .int j] ∧ Q (.int (if j > i then j else i)) H
/-! ### the start -/
def mix1 (s c : Int) : Int := (s * 48271 + c % 2147483629 + 1) % 2147483647
def mixS (cs : List Int) (s : Int) : Int := cs.foldl mix1 s
def t_mix (K : PySem.W.Frag) : TS := tSeq (tAsg (tVar 1) (L2.gName 2)) (tSeq (tFor (iList K (tVar 0)) (L2.gName 3) (tAsg (tOp rMod0 (tOp rAdd0 (tOp rAdd0 (tOp rMul0 (tVar 2) (tC (.int 48271))) (tOp rMod0 (tVar 3) (tC (.int 2147483629)))) (tC (.int 1))) (tC (.int 2147483647))) (L2.gName 2)))
  (tRet (tLst (tCons (tVar 2) (tCons (tCB (rListOf K) (tCons (tVar 0) tNil)) (tCons (tC (.int 0)) tNil))))))
def spMix (K : PySem.W.Frag) : Sp := fun vs H Q _ => ∃ a cs seed, vs = [.ref a, .int seed] ∧ SqL K H a (cs.map V.int) ∧ ∀ b p, H b = none → H p = none → p ≠ b → Q (.ref p) (upd (upd H b (.lst (cs.map V.int))) p (.lst [.int (mixS cs seed), .ref b, .int 0]))
theorem mixS_more {cs : List Int} {i : Nat} {c seed : Int} (h : cs[i]? = some c) : mixS (cs.take (i + 1)) seed = mix1 (mixS (cs.take i) seed) c := by
  unfold mixS
  rw [List.take_add_one, h, List.foldl_append]
  rfl
theorem pure_mix {K : PySem.W.Frag} (N : List Str) (hN : N.length = 4) (vs : List V) (H : Hp) (Q : VK) (E : XK) (h : spMix K vs H Q E) : t_mix K { nx := fun _ H' => Q .non H', rt := Q } (L2.start N vs) H := by
  obtain ⟨a, cs, seed, rfl, hS, k⟩ := h
  have e : L2.start N [.ref a, .int seed] = [some (.ref a), some (.int seed), none, none] := by
    unfold L2.start
    rw [hN]
    rfl
  rw [e]
  refine ⟨_, rfl, _, rfl, a, rfl, ⟨_, hS⟩, for_list (K := K) (a := a) (xs := cs.map V.int) (fun i σ H' => ∃ v : Option V, σ = [some (.ref a), some (.int seed), some (.int (mixS (cs.take i) seed)), v] ∧ H' = H) ⟨none, rfl, rfl⟩ (fun i σ H' _ ⟨_, _, e⟩ => e ▸ hS) ?_ ?_⟩
  · rintro i y σ H' hi ⟨v, rfl, rfl⟩
    obtain ⟨z, hz, rfl⟩ : ∃ z, cs[i]? = some z ∧ y = V.int z := by
      rw [List.getElem?_map] at hi
      cases e : cs[i]? with
      | none => rw [e] at hi; cases hi
      | some z => rw [e] at hi; exact ⟨z, rfl, (Option.some.inj hi).symm⟩
    have step := mixS_more (seed := seed) hz
    refine ⟨_, rfl, _, _, rfl, rfl, .inr (by decide), _, rfl, _, _, rfl, rfl, (by show (0 : Int) < 2147483629; decide), _, _, rfl, rfl, _, _, rfl, rfl, _, _, rfl, rfl, (by show (0 : Int) < 2147483647; decide), ?_⟩
    refine ⟨some (.int z), ?_, rfl⟩
    rw [step]
    rfl
  · rintro σ H' ⟨v, rfl, rfl⟩
    rw [List.length_map, List.take_length]
    refine ⟨_, rfl, _, rfl, a, _, rfl, .inl hS, fun b hb => ⟨by show 3 ≤ sizeLine; decide, fun p hp => ?_⟩⟩
    have hne : p ≠ b := fun e => by rw [e, upd_same] at hp; cases hp
    exact k b p hb (by rw [upd_ne hne] at hp; exact hp) hne

/-! ### a draw -/
def nextD (s : Int) (cs : List Int) (p many : Int) : Int × MObj :=
  let c := (cs ++ [0]).getD (p % (max 1 cs.length : Nat)).toNat 0
  if 10 ^ 18 ≤ c then (c % many, .drw s (cs.set (p % cs.length).toNat (c / many)) p)
  else let s' := (s * 48271 + c * 69621 + 11) % 2147483647
    (s' / 7 % many, .drw s' cs (p + 1))
def fNext : Fd := fun ds m => match ds with
  | [.obj n, .int many] => match m[n]? with
    | some (.drw s cs p) => if 0 < many ∧ many < 18446744073709551616 ∧ 0 ≤ p ∧ cs.length < LIM then .ok (.int (nextD s cs p many).1) (m.set n (nextD s cs p many).2) else .bad
    | _ => .bad
  | _ => .bad
section
variable {x : Sx pw} {m : Sto} {H H' : Hp} {n : Nat} {K : PySem.W.Frag}
theorem obj_end {s s' : Int} {cs cs' : List Int} {p p' : Int} {a : Addr} (R : Rel x [] m [] H) (hn : m[n]? = some (.drw s cs p)) (ha : x.io[n]? = some a) : ∃ b, a ≠ b ∧ H a = some (.lst [.int s, .ref b, .int p]) ∧ H b = some (.lst (cs.map V.int)) ∧
    ∀ H', (∀ c o, H c = some o → c ≠ a → c ≠ b → H' c = some o) → (∀ c, H' c = none → H c = none) → H' a = some (.lst [.int s', .ref b, .int p']) → H' b = some (.lst (cs'.map V.int)) → ∃ y : Sx pw, Rel y [] (m.set n (.drw s' cs' p')) [] H' ∧ StE x H y H' := by
  obtain ⟨a1, A0, A', e1, pm, ob, wr⟩ := R.sto.at hn
  rw [ha] at e1
  cases e1
  cases ob with
  | @drw _ b _ _ _ h1 h2 =>
    have ndA : (a :: b :: A').Nodup := (pm.nodup_iff).mp (List.nodup_append.mp R.nd).2.1
    have hab : a ≠ b := fun e => (List.nodup_cons.mp ndA).1 (by simp [e])
    have in2 : ∀ c, c ∈ x.A2 ↔ c = a ∨ c = b ∨ c ∈ A' := fun c => by rw [pm.mem_iff]; simp
    refine ⟨b, hab, h1, h2, fun H' keep there ha' hb' => ?_⟩
    have kA : Keep A' H H' := fun c hc o e => keep c o e (fun z => (List.nodup_cons.mp ndA).1 (by subst z; exact List.mem_cons_of_mem _ hc)) fun z => (List.nodup_cons.mp (List.nodup_cons.mp ndA).2).1 (by subst z; exact hc)
    obtain ⟨A2, pm2, st2⟩ := wr (F' := x.F) (io' := x.io) (H' := H') (.refl _) (.refl _) kA (ObjR.drw (m := s') (p := p') (cs := cs') ha' hb')
    have in3 : ∀ c, c ∈ A2 ↔ c ∈ x.A2 := fun c => by rw [pm2.mem_iff, pm.mem_iff]
    have eA1 : x.A1 = [] := by
      have := R.vars
      cases h : x.A1 with
      | nil => rfl
      | cons a l => rw [h] at this; cases this
    have ne : ∀ c o, x.F c = some o → c ≠ a ∧ c ≠ b := fun c o e => by
      constructor
      · intro z
        rw [z, R.nF a (List.mem_append_right _ ((in2 a).mpr (.inl rfl)))] at e
        cases e
      · intro z
        rw [z, R.nF b (List.mem_append_right _ ((in2 b).mpr (.inr (.inl rfl))))] at e
        cases e
    refine ⟨(x.w2 (A2)), ⟨fun c o e => keep c o (R.sub c o e) (ne c o e).1 (ne c o e).2, ?_, st2, ?_, fun c hc => ?_⟩, ⟨⟨.refl _, .refl _, fun c o e hc => keep c o e (fun z => hc ((in2 c).mpr (.inl z))) fun z => hc ((in2 c).mpr (.inr (.inl z))), there, fun c h1 h2 => absurd h1 h2, fun c hc => .inl ((in3 c).mp hc)⟩, rfl⟩⟩
    · show Vars pw _ _ _ _ _ x.A1
      rw [eA1]
      exact .nil
    · show (x.A1 ++ A2).Nodup
      rw [eA1, List.nil_append]
      exact (pm2.nodup_iff).mpr ndA
    · refine R.nF c ?_
      rcases List.mem_append.mp hc with q | q
      · exact List.mem_append_left _ q
      · exact List.mem_append_right _ ((in3 c).mp q)
def t_next (K : PySem.W.Frag) : TS :=
  tSeq (tAsg (tOp (rIxL K) (tOp rCat (tOp (rIxL K) (tVar 0) (tC (.int 1))) (tLst (tCons (tC (.int 0)) tNil))) (tOp rMod0 (tOp (rIxL K) (tVar 0) (tC (.int 2))) (tCB rMax2 (tCons (tC (.int 1)) (tCons (tCB (rLenOf K) (tCons (tOp (rIxL K) (tVar 0) (tC (.int 1))) tNil)) tNil))))) (L2.gName 2))
  (tSeq (tIfS (tTest (tOp rGe0 (tVar 2) (tOp rPow0 (tC (.int 10)) (tC (.int 18)))))
    (tSeq (tAsg (tOp rDiv0 (tVar 2) (tVar 1)) (gSub (tOp (rIxL K) (tVar 0) (tC (.int 1))) (tOp rMod0 (tOp (rIxL K) (tVar 0) (tC (.int 2))) (tCB (rLenOf K) (tCons (tOp (rIxL K) (tVar 0) (tC (.int 1))) tNil))) rSetL)) (tRet (tOp rMod0 (tVar 2) (tVar 1)))) tNext)
  (tSeq (tAsg (tOp rMod0 (tOp rAdd0 (tOp rAdd0 (tOp rMul0 (tOp (rIxL K) (tVar 0) (tC (.int 0))) (tC (.int 48271))) (tOp rMul0 (tVar 2) (tC (.int 69621)))) (tC (.int 11))) (tC (.int 2147483647))) (gSub (tVar 0) (tC (.int 0)) rSetL))
  (tSeq (tAsg (tOp rAdd0 (tOp (rIxL K) (tVar 0) (tC (.int 2))) (tC (.int 1))) (gSub (tVar 0) (tC (.int 2)) rSetL))
  (tRet (tOp rMod0 (tOp rDiv0 (tOp (rIxL K) (tVar 0) (tC (.int 0))) (tC (.int 7))) (tVar 1))))))
theorem upd_there {H2 : Hp} {b : Addr} {u : HO} (kt : ∀ c, H2 c = none → H c = none) : ∀ d, upd H2 b u d = none → H d = none := fun d e => by
  by_cases z : d = b
  · rw [z, upd_same] at e; cases e
  · rw [upd_ne z] at e; exact kt d e
theorem ixN_mod {p : Int} {n : Nat} (h : 0 < n) : ixN n (p % (n : Int)) = some (p % (n : Int)).toNat := by
  have h1 : 0 ≤ p % (n : Int) := Int.emod_nonneg _ (by omega)
  have h2 : p % (n : Int) < n := Int.emod_lt_of_pos _ (by omega)
  unfold ixN
  rw [if_pos h1, if_pos h2]
theorem pure_next {t : Tf} (N : List Str) (hN : N.length = 3) (vs : List V) (H : Hp) (Q : VK) (E : XK) (h : spF pw t 2 fNext vs H Q E) : t_next K { nx := fun _ H' => Q .non H', rt := Q } (L2.start N vs) H := by
  obtain ⟨hl, x, m, ds, R, rp, q⟩ := h
  unfold fNext at q
  split at q
  · rename_i n many
    split at q
    · rename_i s cs p hn
      obtain ⟨⟨hm0, hm1, hp0, hcs⟩, q⟩ := Fin.ite q
      cases rp with
      | @cons _ v1 _ _ r1 rp =>
        cases rp with
        | @cons _ v2 _ _ r2 rp =>
          cases rp
          cases r2
          cases r1 with
          | @obj _ a ha =>
            have e : L2.start N [.ref a, .int many] = [some (.ref a), some (.int many), none] := by
              unfold L2.start
              rw [hN]
              rfl
            rw [e]
            have hcz : (cs.map V.int).length + 1 ≤ sizeLine := by rw [List.length_map, ← lim_eq]; omega
            obtain ⟨b, hab, h1, h2, fin⟩ := obj_end (s' := match (nextD s cs p many).2 with | .drw s' _ _ => s' | _ => 0) (cs' := match (nextD s cs p many).2 with | .drw _ c _ => c | _ => []) (p' := match (nextD s cs p many).2 with | .drw _ _ p' => p' | _ => 0) R hn ha
            obtain ⟨c, hc⟩ : ∃ c, c = (cs ++ [0]).getD (p % (max 1 cs.length : Nat)).toNat 0 := ⟨_, rfl⟩
            have hlt : (p % (max 1 cs.length : Nat)).toNat < (cs ++ [0]).length := by
              have z1 : 0 ≤ p % ((max 1 cs.length : Nat) : Int) := Int.emod_nonneg _ (by omega)
              have z2 : p % ((max 1 cs.length : Nat) : Int) < (max 1 cs.length : Nat) := Int.emod_lt_of_pos _ (by omega)
              rw [List.length_append]
              simp only [List.length_singleton]
              omega
            have hat : atI ((cs ++ [0]).map V.int) (p % (max 1 cs.length : Nat)) = some (.int c) := by
              unfold atI
              rw [List.length_map]
              have z1 : 0 ≤ p % ((max 1 cs.length : Nat) : Int) := Int.emod_nonneg _ (by omega)
              have z3 : p % ((max 1 cs.length : Nat) : Int) < ((cs ++ [0]).length : Nat) := by omega
              unfold ixN
              rw [if_pos z1, if_pos z3]
              show ((cs ++ [0]).map V.int)[(p % (max 1 cs.length : Nat)).toNat]? = _
              rw [List.getElem?_map, List.getElem?_eq_getElem hlt, hc, List.getD_eq_getElem?_getD, List.getElem?_eq_getElem hlt]
              rfl
            have nb : ∀ q1, H q1 = none → a ≠ q1 ∧ b ≠ q1 := fun q1 hq => ⟨fun z => (by rw [← z, h1] at hq; cases hq), fun z => (by rw [← z, h2] at hq; cases hq)⟩
            -- the cell
            refine ⟨_, rfl, a, _, 1, .ref b, rfl, rfl, SqL.of h1, rfl, ⟨by show 1 ≤ sizeLine; decide, fun q1 hq1 => ?_⟩⟩
            have nb1 := nb q1 hq1
            have g1 : upd H q1 (.lst [.int 0]) a = some (.lst [.int s, .ref b, .int p]) := by rw [upd_ne nb1.1]; exact h1
            have g2 : upd H q1 (.lst [.int 0]) b = some (.lst (cs.map V.int)) := by rw [upd_ne nb1.2]; exact h2
            refine ⟨b, q1, _, _, rfl, rfl, g2, upd_same, hcz, fun q2 hq2 => ?_⟩
            have nq : q2 ≠ q1 := fun z => by rw [z, upd_same] at hq2; cases hq2
            have hq2' : H q2 = none := by rw [upd_ne nq] at hq2; exact hq2
            have nb2 := nb q2 hq2'
            obtain ⟨H2, hH2⟩ : ∃ H2, H2 = upd (upd H q1 (.lst [.int 0])) q2 (.lst (cs.map V.int ++ [.int 0])) := ⟨_, rfl⟩
            rw [← hH2]
            have k1 : H2 a = some (.lst [.int s, .ref b, .int p]) := by rw [hH2, upd_ne nb2.1]; exact g1
            have k2 : H2 b = some (.lst (cs.map V.int)) := by rw [hH2, upd_ne nb2.2]; exact g2
            have k3 : H2 q2 = some (.lst ((cs ++ [0]).map V.int)) := by rw [hH2, upd_same]; simp
            have kp : ∀ c o, H c = some o → H2 c = some o := fun c o e => by
              rw [hH2, upd_ne (ne_of_none e hq2'), upd_ne (ne_of_none e hq1)]
              exact e
            have kt : ∀ c, H2 c = none → H c = none := fun c e => by
              cases z : H c with
              | none => rfl
              | some o => rw [kp c o z] at e; cases e
            have emax : (if ((cs.length : Nat) : Int) > 1 then ((cs.length : Nat) : Int) else 1) = ((max 1 cs.length : Nat) : Int) := by
              by_cases z : ((cs.length : Nat) : Int) > 1
              · rw [if_pos z]; omega
              · rw [if_neg z]; omega
            refine ⟨_, rfl, a, _, 2, .int p, rfl, rfl, SqL.of k1, rfl, _, rfl, a, _, 1, .ref b, rfl, rfl, SqL.of k1, rfl, _, cs.length, rfl, .inl ⟨_, SqL.of k2, by simp⟩, 1, _, rfl, p, _, rfl, rfl, ?_, ?_⟩
            · rw [emax]; omega
            rw [emax]
            refine ⟨q2, _, _, .int c, rfl, rfl, SqL.of k3, hat, ?_⟩
            -- the test
            refine ⟨_, rfl, _, _, rfl, rfl, ⟨by decide, by decide, by decide⟩, c, _, rfl, rfl, _, rfl, ?_⟩
            by_cases hbig : (10 : Int) ^ 18 ≤ c
            · have eN : nextD s cs p many = (c % many, .drw s (cs.set (p % cs.length).toNat (c / many)) p) := by
                unfold nextD
                rw [← hc]
                exact if_pos hbig
              have hpos : 0 < cs.length := by
                cases cs with
                | nil =>
                  exfalso
                  have z : c = 0 := by
                    rw [hc]
                    cases (p % (max 1 ([] : List Int).length : Nat)).toNat with
                    | zero => rfl
                    | succ k => rfl
                  rw [z] at hbig
                  exact absurd hbig (by decide)
                | cons c cs => exact Nat.succ_pos _
              refine (if_pos (decide_eq_true hbig)).mpr ?_
              rw [eN] at fin q
              refine ⟨_, rfl, _, rfl, c, many, rfl, rfl, divW ⟨hm0, hm1⟩, ?_⟩
              refine ⟨_, rfl, a, _, 1, .ref b, rfl, rfl, SqL.of k1, rfl, ?_⟩
              refine ⟨_, rfl, a, _, 2, .int p, rfl, rfl, SqL.of k1, rfl, _, rfl, a, _, 1, .ref b, rfl, rfl, SqL.of k1, rfl, _, cs.length, rfl, .inl ⟨_, SqL.of k2, by simp⟩, p, _, rfl, rfl, by omega, ?_⟩
              refine ⟨b, _, _, (p % (cs.length : Int)).toNat, rfl, rfl, k2, by rw [List.length_map]; exact ixN_mod hpos, ?_⟩
              refine ⟨_, rfl, _, rfl, c, many, rfl, rfl, hm0, ?_⟩
              obtain ⟨y, Ry, sy⟩ := fin (upd H2 b (.lst ((cs.map V.int).set (p % (cs.length : Int)).toNat (.int (c / many))))) (fun d o e _ n2 => by rw [upd_ne n2]; exact kp d o e) (upd_there kt) (by rw [upd_ne hab]; exact k1) (by rw [upd_same, List.map_set])
              exact q _ y _ Ry (.int _) sy
            · have eN : nextD s cs p many = ((s * 48271 + c * 69621 + 11) % 2147483647 / 7 % many, .drw ((s * 48271 + c * 69621 + 11) % 2147483647) cs (p + 1)) := by
                unfold nextD
                rw [← hc]
                exact if_neg hbig
              refine (if_neg (by simpa using hbig)).mpr ?_
              rw [eN] at fin q
              have hne : ∀ {u : HO} , upd H2 a u b = some (.lst (cs.map V.int)) := fun {u} => by rw [upd_ne (Ne.symm hab)]; exact k2
              refine ⟨_, rfl, a, _, 0, .int s, rfl, rfl, SqL.of k1, rfl, s, _, rfl, rfl, .inr (by decide), _, rfl, c, _, rfl, rfl, .inr (by decide), _, _, rfl, rfl, _, _, rfl, rfl, _, _, rfl, rfl, (by show (0 : Int) < 2147483647; decide), ?_⟩
              refine ⟨_, rfl, a, _, 0, 0, rfl, rfl, k1, rfl, ?_⟩
              refine ⟨_, rfl, a, _, 2, .int p, rfl, rfl, SqL.of upd_same, rfl, p, _, rfl, rfl, ?_⟩
              refine ⟨_, rfl, a, _, 2, 2, rfl, rfl, upd_same, rfl, ?_⟩
              refine ⟨_, rfl, a, _, 0, .int _, rfl, rfl, SqL.of upd_same, rfl, _, _, rfl, rfl, divW ⟨by decide, by decide⟩, _, rfl, _, many, rfl, rfl, hm0, ?_⟩
              obtain ⟨y, Ry, sy⟩ := fin (upd (upd H2 a (.lst [.int ((s * 48271 + c * 69621 + 11) % 2147483647), .ref b, .int p])) a (.lst [.int ((s * 48271 + c * 69621 + 11) % 2147483647), .ref b, .int (p + 1)])) (fun d o e n1 _ => by rw [upd_ne n1, upd_ne n1]; exact kp d o e) (upd_there (upd_there kt)) upd_same (by rw [upd_ne (Ne.symm hab)]; exact hne)
              exact q _ y _ Ry (.int _) sy
    · exact q.elim
  · exact q.elim
end
end Dl
set_option autoImplicit true
/-! The data layer: what can be called by its name; a def that calls itself; the law's own def. -/
namespace Dl
open PySem PySem.Spec PyProof.Rows L2 TL

/-- a def of the text as it stands behind the top -/
structure DefIs (K : PySem.W.Frag) (mg : Str → Option Value) (x : Str) (st : Stmt) : Prop where
  ex : ∃ f fd, Fun K x x st f fd ∧ mg x = some (.ref f)
/-- what can be called by its name -/
structure Cal (P : Program) (w : World) (K : PySem.W.Frag) (mg : Str → Option Value) (base : Heap) (k : Nat) (x : Str) (n : Nat) (t : Tf) (φ : Fd) : Prop where
  ex : ∃ f fd ps, FnOk P w K mg base (L2.CX P w) k f fd ps (spF (P, w, mg) t n φ) ∧ mg x = some (.ref f) ∧ PySem.W.keepIn K (.ref f) = true ∧ Binds K fd ps []
section
variable {P : Program} {w : World} {K : PySem.W.Frag} {mg : Str → Option Value} {base : Heap} {k j n : Nat} {x : Str} {t : Tf} {φ ψ : Fd} {st : Stmt} {N ps : List Str} {b : SS}
theorem Cal.mono (C : Cal P w K mg base j x n t φ) (h : j ≤ k) : Cal P w K mg base k x n t φ := by
  obtain ⟨f, fd, ps, F, r⟩ := C.ex
  exact ⟨f, fd, ps, F.mono h, r⟩
theorem Cal.as (C : Cal P w K mg base k x n t φ) (h : ∀ ds m, ds.length = n → ψ ds m = .bad ∨ ψ ds m = φ ds m) : Cal P w K mg base k x n t ψ := by
  obtain ⟨f, fd, ps, F, r⟩ := C.ex
  exact ⟨f, fd, ps, fn_as F h, r⟩
abbrev BindsOk (st : Stmt) (x : Str) (ps : List Str) : Prop := ∀ (kV doc pm : Value) (an : Option Addr) (cdv ct : Value) (us : List Value), us.length = ps.length → bindArgs (PySem.W.fnOf x x (defArgs st) (defBody st) (defScope st) .none kV doc pm an cdv ct) ⟨us, []⟩ = pure (ps.zip us)
theorem Cal.of (D : DefIs K mg x st) (S : FnScope N ps (defScope st)) (hb : BindsOk st x ps)
    (hbody : ∀ (f : Addr) (cdv : Value) (A : Around) (outer : List PySem.Env) (s : Shared) (H : Hp) (E : XK), Room k (A.deeper (envOfC x (defScope st) s.heap.objs.size f cdv)) → DSs (cxOf (L2.CX P w) P w K mg base N x (defScope st) f cdv A outer s H E) (t.wi E) (defBody st) b) :
    Cal P w K mg base (k + 1) x ps.length t (fD N b) := by
  obtain ⟨f, fd, F, hm⟩ := D.ex
  exact ⟨f, fd, ps, fn_def F S (hbody f), hm, F.kp, F.binds hb⟩
/-- by another Sp -/
theorem Cal.raw (D : DefIs K mg x st) (S : FnScope N ps (defScope st)) (hb : BindsOk st x ps) {tt : TS}
    (hbody : ∀ (f : Addr) (cdv : Value) (A : Around) (outer : List PySem.Env) (s : Shared) (H : Hp) (E : XK), Room k (A.deeper (envOfC x (defScope st) s.heap.objs.size f cdv)) → PSs (cxOf (L2.CX P w) P w K mg base N x (defScope st) f cdv A outer s H E) (defBody st) tt)
    (hp : ∀ vs H Q E, spF (P, w, mg) t ps.length φ vs H Q E → tt { nx := fun _ H' => Q .non H', rt := Q } (L2.start N vs) H) : Cal P w K mg base (k + 1) x ps.length t φ := by
  obtain ⟨f, fd, F, hm⟩ := D.ex
  exact ⟨f, fd, ps, F.okX S (fun vs H Q E h => h.1) fun cdv A outer s H vs Q E hr h => ⟨tt, hbody f cdv A outer s H E hr, hp vs H Q E h⟩, hm, F.kp, F.binds hb⟩
theorem Cal.none (D : DefIs K mg x st) (hb : BindsOk st x ps) : Cal P w K mg base 0 x ps.length t (fun _ _ => .bad) := by
  obtain ⟨f, fd, F, hm⟩ := D.ex
  exact ⟨f, fd, ps, ⟨fun vs H Q E h => h.1, fun A outer s H args us vs Q E _ _ _ _ h => by
    obtain ⟨_, _, _, _, _, _, q⟩ := h
    exact q.elim⟩, hm, F.kp, F.binds hb⟩
/-- a def that calls itself, so many times deep -/
def recF (body : Fd → Fd) : Nat → Fd
  | 0 => fun _ _ => .bad
  | d + 1 => body (recF body d)
theorem Cal.recur {body : Fd → Fd} (C0 : Cal P w K mg base j x n t (fun _ _ => .bad)) (h : ∀ (k : Nat) (φ : Fd), j ≤ k → Cal P w K mg base k x n t φ → Cal P w K mg base (k + 1) x n t (body φ)) : ∀ d, Cal P w K mg base (j + d) x n t (recF body d)
  | 0 => C0
  | d + 1 => h (j + d) (recF body d) (Nat.le_add_right _ _) (Cal.recur C0 h d)
end
section
variable {X : Cx} {w : Wi} {k n : Nat} {φ : Fd} {nm : Str} {p pos : Pos} {e : Expr} {es : List Expr} {g : SL}
theorem de_callC (C : Cal X.prog X.w X.K X.mg X.base k nm n w.tf φ) (hr : Room k X.A) (hg : Gl X nm) (tk : L2.Takes X w.W) (ha : DA X w (e :: es) g) (hdb : (nm == ("__debug__" : Str)) = false := by decide) (he : starEach (e :: es) X.env = (false, eval e X.env) :: starEach es X.env := by rfl) (hpl : (backTo pos (starEach es X.env)).any (·.1) = false := by rfl) :
    DE X w (.Call (.Name nm p) (e :: es) [] pos) (sCall (callF n φ) g) := by
  obtain ⟨f, fd, ps, F, hm, hk, hb⟩ := C.ex
  exact de_call rfl F hr hg hm hk hb tk ha hdb he hpl
end

/-! ### the law's own def: _law_h = _law_mix(script, seed), then the rest -/
def spLaw (K : PySem.W.Frag) : Sp := fun vs H Q _ => ∃ (a : Addr) (ns : List Int), vs = [.ref a] ∧ ns.length ≤ 63 ∧ SqL K H a (ns.map V.int) ∧ L2.Only H ∧ ∀ H', Q (.bl true) H'
def lawE (N : List Str) (a : Addr) : Env := some (.val (.cst (.ref a))) :: some (.val (.obj 0)) :: List.replicate (N.length - 2) none
/-- what the rest of the law's def comes to -/
def LawOk (N : List Str) (seed : Int) (g : SS) : Prop := ∀ (a : Addr) (ns : List Int), ns.length ≤ 63 → ∃ m, g (lawE N a) [.drw (mixS ns seed) ns 0] = .rt (.bl true) m
theorem law_start {K : PySem.W.Frag} {w : Wi} {N : List Str} {seed : Int} {g : SS} (h : LawOk N seed g) (h2 : 2 ≤ N.length) {vs : List V} {H : Hp} {Q : VK} {E : XK} {We : L2.St → XK} (hs : spLaw K vs H Q E) :
    tSeq (tAsg (tCallS (spMix K) We (tCons (tVar 0) (tCons (tC (.int seed)) tNil))) (L2.gName 1)) (rdS pw w g) { nx := fun _ H' => Q .non H', rt := Q } (L2.start N vs) H := by
  obtain ⟨a, ns, rfl, hl, hS, hO, q⟩ := hs
  have e0 : L2.start N [.ref a] = some (.ref a) :: none :: List.replicate (N.length - 2) none := by
    unfold L2.start
    obtain ⟨k, hk⟩ : ∃ k, N.length = k + 2 := ⟨N.length - 2, by omega⟩
    rw [hk]
    rfl
  rw [e0]
  refine ⟨_, rfl, a, ns, seed, rfl, hS, fun b p hb hp hpb => ?_⟩
  obtain ⟨m, em⟩ := h a ns hl
  obtain ⟨H', hH⟩ : ∃ H', H' = upd (upd H b (.lst (ns.map V.int))) p (.lst [.int (mixS ns seed), .ref b, .int 0]) := ⟨_, rfl⟩
  have hpb' : H' p = some (.lst [.int (mixS ns seed), .ref b, .int 0]) := by rw [hH, upd_same]
  have hbb : H' b = some (.lst (ns.map V.int)) := by rw [hH, upd_ne (Ne.symm hpb), upd_same]
  show rdS pw w g _ (some (.ref a) :: some (.ref p) :: List.replicate (N.length - 2) none) _
  rw [← hH]
  refine ⟨⟨fun _ => none, [p], [], [p, b]⟩, lawE N a, [.drw (mixS ns seed) ns 0], ⟨fun c o z => (by cases z), ?_, Stos.cons (A := []) (ObjR.drw hpb' hbb) .nil, by simpa using hpb, fun _ _ => rfl⟩, ?_⟩
  · refine Vars.cons (A0 := []) (.val (.cst _)) (Vars.cons (A0 := []) (A := []) (.val (.obj rfl)) ?_)
    generalize N.length - 2 = k
    induction k with
    | zero => exact .nil
    | succ k ih => exact .skip ih
  · rw [em]
    intro v y H2 _ rp _
    cases rp
    exact q H2
section
variable {P : Program} {w : World} {K : PySem.W.Frag} {mg : Str → Option Value} {base : Heap} {k : Nat} {x : Str} {st : Stmt} {N ps : List Str}
/-- the draws' start can be called -/
structure MixOk (P : Program) (w : World) (K : PySem.W.Frag) (mg : Str → Option Value) (base : Heap) (k : Nat) (x : Str) : Prop where
  ex : ∃ f fd ps, FnOk P w K mg base (L2.CX P w) k f fd ps (spMix K) ∧ mg x = some (.ref f) ∧ PySem.W.keepIn K (.ref f) = true ∧ Binds K fd ps []
theorem MixOk.of (D : DefIs K mg x st) (S : FnScope N ps (defScope st)) (hb : BindsOk st x ps) (hN : N.length = 4) (hp : ps.length = 2)
    (hbody : ∀ (f : Addr) (cdv : Value) (A : Around) (outer : List PySem.Env) (s : Shared) (H : Hp) (E : XK), Room k (A.deeper (envOfC x (defScope st) s.heap.objs.size f cdv)) → PSs (cxOf (L2.CX P w) P w K mg base N x (defScope st) f cdv A outer s H E) (defBody st) (t_mix K)) : MixOk P w K mg base (k + 1) x := by
  obtain ⟨f, fd, F, hm⟩ := D.ex
  exact ⟨f, fd, ps, F.okX S (fun vs H Q E h => by
    obtain ⟨a, cs, seed, rfl, _⟩ := h
    exact hp.symm) fun cdv A outer s H vs Q E hr h => ⟨t_mix K, hbody f cdv A outer s H E hr, pure_mix N hN vs H Q E h⟩, hm, F.kp, F.binds hb⟩
theorem pss_mix {X : Cx} {w : Wi} {j : Nat} {seed : Int} {g : SS} {hx lx : Str} {p1 p2 p3 p4 p5 p6 : Pos} {jj : Nat} {rest : List Stmt} (M : MixOk X.prog X.w X.K X.mg X.base j x) (hr : Room j X.A) (tk : L2.Takes X w.W) (hg : Gl X x) (nd : X.N.Nodup) (h0 : PE X (.Name lx p3) (tVar 0)) (h1 : X.N[1]? = some hx) (hl : Loc X.env.scope hx)
    (h : DSs X w rest g) (hdb : (x == ("__debug__" : Str)) = false := by decide) (he : starEach [.Name lx p3, .Constant (.int seed) jj p4] X.env = (false, eval (.Name lx p3) X.env) :: starEach [.Constant (.int seed) jj p4] X.env := by rfl)
    (he' : starEach [.Constant (.int seed) jj p4] X.env = (false, eval (.Constant (.int seed) jj p4) X.env) :: starEach [] X.env := by rfl) (hpl : (backTo p5 (starEach [.Constant (.int seed) jj p4] X.env)).any (·.1) = false := by rfl)
    (hs : swapsWith (.Call (.Name x p2) [.Name lx p3, .Constant (.int seed) jj p4] [] p5) (some (.Name hx p1)) p6.line X.env = pure false := by rfl) (hf : X.fn hx = true ∨ X.env.scope.names.lookup hx = some .local := by first | exact .inl rfl | exact .inr rfl | assumption) :
    PSs X (.Assign [.Name hx p1] (.Call (.Name x p2) [.Name lx p3, .Constant (.int seed) jj p4] [] p5) p6 :: rest) (tSeq (tAsg (tCallS (spMix X.K) (WE w.W) (tCons (tVar 0) (tCons (tC (.int seed)) tNil))) (L2.gName 1)) (rdS (pwOf X) w g)) := by
  obtain ⟨f, fd, ps, F, hm, hk, hb⟩ := M.ex
  exact pss_cons (ps_set (i := 1) nd h1 hl (pe_callS F hr hg hm hk hb (fun σ => passAt tk σ) (pa_cons h0 (pa_cons pe_int pa_nil he') he) hdb he hpl) hs hf) h
theorem law_fn {f : Addr} {fd : FuncData} {lx : Str} {seed : Int} {g : SS} {t : Tf} (F : Fun K "law" "law" st f fd) (S : FnScope N [lx] (defScope st)) (h : LawOk N seed g) (h2 : 2 ≤ N.length)
    (hbody : ∀ (cdv : Value) (A : Around) (outer : List PySem.Env) (s : Shared) (H : Hp) (E : XK), Room k (A.deeper (envOfC "law" (defScope st) s.heap.objs.size f cdv)) → PSs (cxOf (L2.CX P w) P w K mg base N "law" (defScope st) f cdv A outer s H E) (defBody st) (tSeq (tAsg (tCallS (spMix K) (WE (t.wi E).W) (tCons (tVar 0) (tCons (tC (.int seed)) tNil))) (L2.gName 1)) (rdS (P, w, mg) (t.wi E) g))) :
    FnOk P w K mg base (L2.CX P w) (k + 1) f fd [lx] (spLaw K) :=
  F.okX S (fun vs H Q E h => by
    obtain ⟨a, ns, rfl, _⟩ := h
    rfl) fun cdv A outer s H vs Q E hr hs => ⟨_, hbody cdv A outer s H E hr, law_start h h2 hs⟩
end
end Dl
set_option autoImplicit true
/-! The data layer: a few rules in the form in which they are printed. -/
namespace Dl
open PySem PySem.Spec PyProof.Rows L2 TL
section
variable {X : Cx} {w : Wi} {pos : Pos} {e o : Expr} {fe : SE}
theorem de_gstrE (l : List Nat) {x y : Str} (hg : Gl X x) (hm : ∃ t, X.mg x = some (.str y t)) (h : y = ⟨l.toArray⟩ := by decide +kernel) (hd : (x == ("__debug__" : Str)) = false := by decide) : DE X w (.Name x pos) (sC (.str l)) :=
  let ⟨t, hm⟩ := hm
  de_gstr l hg hm h hd
theorem de_gintE {i : Int} {x : Str} (hg : Gl X x) (hm : ∃ t, X.mg x = some (.int i t)) (hd : (x == ("__debug__" : Str)) = false := by decide) : DE X w (.Name x pos) (sC (.int i)) :=
  let ⟨t, hm⟩ := hm
  de_gint hg hm hd
theorem ds_appD {i : Nat} {p1 p2 : Pos} (ho : PE X o (tVar i)) (ha : DE X w e fe)
    (hs : swapsWith (.Call (.Attribute o "append" p1) [e] [] p2) none pos.line X.env = pure false := by rfl) (hst : starEach [e] X.env = [(false, eval e X.env)] := by rfl)
    (hbase : attributeBase o "append" X.env (eval o X.env) = eval o X.env := by rfl)
    (hfew : ((backTo p2 (starEach [e] X.env)).all (fun x => !x.1) && (backToKw p2 (keywordEach [] X.env)).all (fun x => x.1.isSome)
      && decide ([e].length + ([] : List Keyword).length + (if ([] : List Keyword).isEmpty then 0 else 1) < 30)) = true := by rfl)
    (hline : (p1.endLine == p2.line) = true := by rfl) (hpl : (backTo p2 (starEach [] X.env)).any (·.1) = false := by rfl) :
    DS X w (.Expr (.Call (.Attribute o "append" p1) [e] [] p2) pos) (sApp i fe) :=
  ds_app ho ha hs hst (pe_bm PySem.F.plainAttrs_list PySem.F.slot_list_append PySem.F.type_list_append mt_append ho (pa_cons ha pa_nil hst) hbase hfew hline hst hpl)
theorem ds_extD {i : Nat} {p1 p2 : Pos} (ho : PE X o (tVar i)) (ha : DE X w e fe)
    (hs : swapsWith (.Call (.Attribute o "extend" p1) [e] [] p2) none pos.line X.env = pure false := by rfl) (hst : starEach [e] X.env = [(false, eval e X.env)] := by rfl)
    (hbase : attributeBase o "extend" X.env (eval o X.env) = eval o X.env := by rfl)
    (hfew : ((backTo p2 (starEach [e] X.env)).all (fun x => !x.1) && (backToKw p2 (keywordEach [] X.env)).all (fun x => x.1.isSome)
      && decide ([e].length + ([] : List Keyword).length + (if ([] : List Keyword).isEmpty then 0 else 1) < 30)) = true := by rfl)
    (hline : (p1.endLine == p2.line) = true := by rfl) (hpl : (backTo p2 (starEach [] X.env)).any (·.1) = false := by rfl) :
    DS X w (.Expr (.Call (.Attribute o "extend" p1) [e] [] p2) pos) (sExt i fe) :=
  ds_ext ho ha hs (pe_bm PySem.F.plainAttrs_list PySem.F.slot_list_extend PySem.F.type_list_extend mt_extend ho (pa_cons ha pa_nil hst) hbase hfew hline hst hpl)
end
end Dl
set_option autoImplicit true
/-! The data layer: dicts whose keys are tuples. -/
namespace Dl
open PySem PySem.Spec PyProof.Rows L2 TL
section
variable {P : Program} {w : World} {mg : Str → Option Value} {F H : Hp} {io : List Addr} {h : Heap}
mutual
theorem rep_key (ok : HOk P w H h) (hs : Sub F H) : ∀ {d : D} {v : V} {k : NestedKey} {u : Value}, Rep F io d v → keyOf d = some k → RelV v u → NestedIs h k u
  | _, _, _, _, .non, e, r => by
    cases e
    obtain rfl := (show _ = Value.none from r)
    exact .none
  | _, _, _, _, .bl b, e, r => by
    cases e
    obtain rfl := (show _ = Value.bool b from r)
    exact .bool rfl
  | _, _, _, _, .int i, e, r => by
    cases e
    obtain ⟨t, rfl⟩ := r
    exact .int i t
  | _, _, _, _, .str s, e, r => by
    cases e
    obtain ⟨t, rfl⟩ := r
    exact .text _ t
  | .tup l, _, k, u, .tup (a := a) (vs := vs) e q, ek, r => by
    have ek : (match keysOf l with | some ks => some (NestedKey.tup ks) | none => none) = some k := by rw [← ek]; unfold keyOf; rfl
    cases hk : keysOf l with
    | none => rw [hk] at ek; cases ek
    | some ks =>
      rw [hk] at ek
      cases ek
      obtain rfl := (show u = Value.ref a from r)
      obtain ⟨_, its, rv, o, h1, h2, n, h3⟩ := (show ObjOk P w H h a (.tup vs) from ok a _ (hs _ _ e))
      exact .tup h1 h2 h3 (by simpa using reps_keys ok hs q hk rv)
  | _, _, _, _, .lst _ _, e, _ => by cases e
  | _, _, _, _, .obj _, e, _ => by cases e
  | _, _, _, _, .dct _ _, e, _ => by cases e
  | _, _, _, _, .cst _, e, _ => by cases e
theorem reps_keys (ok : HOk P w H h) (hs : Sub F H) : ∀ {ds : List D} {vs : List V} {ks : List NestedKey} {us : List Value}, Reps F io ds vs → keysOf ds = some ks → Vals vs us → NestedAll h ks us
  | _, _, _, _, .nil, e, r => by
    cases e
    cases r
    exact .nil
  | d :: l, _, ks, _, .cons q t, e, r => by
    have e : (match keyOf d, keysOf l with | some k, some ks => some (k :: ks) | _, _ => none) = some ks := by rw [← e]; (conv => rhs; unfold keysOf) <;> (cases keyOf d <;> cases keysOf l <;> rfl)
    cases hk : keyOf d with
    | none => rw [hk] at e; cases e
    | some k =>
      cases hl : keysOf l with
      | none => rw [hk, hl] at e; cases e
      | some ks =>
        rw [hk, hl] at e
        cases e
        cases r with
        | cons r1 r2 => exact .cons (rep_key ok hs q hk r1) (reps_keys ok hs t hl r2)
end
/-- the tuple at b is the key k -/
def KeyAt (P : Program) (w : World) (H : Hp) (b : Addr) (k : NestedKey) : Prop := ∀ h, HOk P w H h → (nestedKind P w).is h k b
def KeysAt (P : Program) (w : World) (H : Hp) (xs : List (NestedKey × Addr × V)) : Prop := ∀ x ∈ xs, KeyAt P w H x.2.1 x.1
theorem keyAt_of (hs : Sub F H) {d : D} {b : Addr} {k : NestedKey} (r : Rep F io d (.ref b)) (e : keyOf d = some k) (z : k.depth ≤ 8) : KeyAt P w H b k := fun h ok => ⟨rep_key ok hs r e rfl, z⟩
theorem keysAt_of (hs : Sub F H) : ∀ {ks vs : List D} {xs : List (NestedKey × Addr × V)}, DPairs F io ks vs xs → KeysAt P w H xs
  | _, _, _, .nil => fun _ h => by cases h
  | _, _, _, .cons r e z _ t => fun x h => by
    rcases List.mem_cons.mp h with rfl | h
    · exact keyAt_of hs r e z
    · exact keysAt_of hs t x h
end
abbrev PN : List (NestedKey × Addr × V) → List (NestedKey × Addr × Value) → Prop := Paired fun x y => x.1 = y.1 ∧ x.2.1 = y.2.1 ∧ RelV x.2.2 y.2.2
def atK (xs : List (NestedKey × Addr × V)) (k : NestedKey) : Option V := (xs.find? fun x => decide (x.1 = k)).map (·.2.2)
def stK (xs : List (NestedKey × Addr × V)) (k : NestedKey) (b : Addr) (v : V) : List (NestedKey × Addr × V) := if (atK xs k).isSome then xs.map (fun x => if x.1 = k then (x.1, x.2.1, v) else x) else xs ++ [(k, b, v)]
theorem PN.at {xs : List (NestedKey × Addr × V)} {ys : List (NestedKey × Addr × Value)} (r : PN xs ys) (k : NestedKey) : RelO (atK xs k) ((atKey ys k).map (·.2)) := by
  induction r with
  | nil => exact True.intro
  | @cons p q ps qs h t ih =>
    obtain ⟨h1, _, h2⟩ := h
    by_cases e : p.1 = k
    · have e' : q.1 = k := h1.symm.trans e
      have a : atK (p :: ps) k = some p.2.2 := by simp [atK, List.find?_cons, e]
      have b : atKey (q :: qs) k = some q.2 := by simp [atKey, List.find?_cons, e']
      rw [a, b]; exact h2
    · have e' : ¬ q.1 = k := fun z => e (h1.trans z)
      have a : atK (p :: ps) k = atK ps k := by simp [atK, List.find?_cons, e]
      have b : atKey (q :: qs) k = atKey qs k := by simp [atKey, List.find?_cons, e']
      rw [a, b]; exact ih
theorem PN.keys {xs : List (NestedKey × Addr × V)} {ys : List (NestedKey × Addr × Value)} (r : PN xs ys) : ys.map (·.1) = xs.map (·.1) := by
  induction r with
  | nil => rfl
  | cons h t ih => rw [List.map_cons, List.map_cons, ih, h.1]
theorem PN.put {xs : List (NestedKey × Addr × V)} {ys : List (NestedKey × Addr × Value)} (r : PN xs ys) (k : NestedKey) (b : Addr) {v : V} {u : Value} (rv : RelV v u) : PN (stK xs k b v) (storedH ys k b u) := by
  have e : (atK xs k).isSome = (atKey ys k).isSome := by
    rw [(r.at k).isSome_eq, Option.isSome_map]
  unfold stK storedH
  rw [e]
  by_cases q : (atKey ys k).isSome = true
  · rw [if_pos q, if_pos q]
    clear q e
    induction r with
    | nil => exact .nil
    | @cons p q ps qs h t ih =>
      rw [List.map_cons, List.map_cons]
      refine .cons ?_ ih
      obtain ⟨h1, h2, h3⟩ := h
      unfold putAt
      by_cases e : p.1 = k
      · rw [if_pos e, if_pos (h1.symm.trans e)]; exact ⟨h1, h2, rv⟩
      · rw [if_neg e, if_neg (fun z => e (h1.trans z))]; exact ⟨h1, h2, h3⟩
  · rw [if_neg q, if_neg q]; exact Paired.snoc r ⟨rfl, rfl, rv⟩
theorem stK_length (xs : List (NestedKey × Addr × V)) (k : NestedKey) (b : Addr) (v : V) : (stK xs k b v).length ≤ xs.length + 1 := by
  unfold stK
  split
  · rw [List.length_map]; omega
  · rw [List.length_append]; exact Nat.le_refl _
section
variable {P : Program} {w : World} {mg : Str → Option Value} {H : Hp} {h : Heap} {a : Addr} {xs : List (NestedKey × Addr × V)} {ep : Nat}
theorem PN.all {ys : List (NestedKey × Addr × Value)} (r : PN xs ys) (ok : HOk P w H h) (hk : KeysAt P w H xs) : ∀ y ∈ ys, (nestedKind P w).is h y.1 y.2.1 := by
  induction r with
  | nil => exact fun y hy => by cases hy
  | @cons p q ps qs hq t ih =>
    intro y hy
    rcases List.mem_cons.mp hy with rfl | hy
    · rw [← hq.1, ← hq.2.1]
      exact hk p (List.mem_cons_self ..) h ok
    · exact ih (fun x hx => hk x (List.mem_cons_of_mem _ hx)) y hy
theorem dn_at (ok : HOk P w H h) (e : H a = some (dN (P, w, mg) a xs ep)) (hk : KeysAt P w H xs) : xs.length ≤ sizeLine ∧ (a == sysModules) = false ∧ ∃ ys, PN xs ys ∧ h.DictOfH (nestedKind P w) a ys := by
  obtain ⟨⟨o, es, ys, h1, h2, h3, h4, h5, h6, h7, h8⟩, _, _⟩ := (show ObjOk P w H h a (dN (P, w, mg) a xs ep) from ok a _ e)
  exact ⟨h7, h6, ys, h5, o, es, ep, h1, h2, h3, h4, PN.all h5 ok hk, by rw [PN.keys h5]; exact h8⟩
theorem dn_ok {H' : Hp} {h' : Heap} {ys : List (NestedKey × Addr × Value)} (dd : h'.DictOfH (nestedKind P w) a ys) (r : PN xs ys) (hz : xs.length ≤ sizeLine) (hd : (a == sysModules) = false) : ∃ ep, ObjOk P w H' h' a (dN (P, w, mg) a xs ep) := by
  obtain ⟨o, es, ep, h1, h2, h3, h4, h5, h6⟩ := dd
  exact ⟨ep, ⟨o, es, ys, h1, h2, h3, h4, r, hd, hz, by rw [← r.keys]; exact h6⟩, ⟨o, h1⟩, fun g1 g2 ⟨o, es, ys, k1, k2⟩ st => ⟨o, es, ys, st _ k1, k2⟩⟩
theorem dn_new {H' : Hp} (hb : sysModules < h.objs.size) : ObjOk P w H' (h.push { cls := .type "dict", data := .dict #[] }) h.objs.size (dN (P, w, mg) h.objs.size [] 0) :=
  ⟨⟨_, #[], [], Heap.get?_push_size _ rfl, ⟨rfl, rfl, rfl⟩, rfl, rfl, .nil, beq_eq_false_iff_ne.mpr (Ne.symm (Nat.ne_of_lt hb)), Nat.zero_le _, List.nodup_nil⟩, ⟨_, Heap.get?_push_size _ rfl⟩, fun g1 g2 ⟨o, es, ys, k1, k2⟩ st => ⟨o, es, ys, st _ k1, k2⟩⟩
end

section
variable {X : Cx} {pins : List (Addr × Obj)} {σ : L2.St} {H : Hp} {s : Shared} {a b : Addr} {xs : List (NestedKey × Addr × V)} {ep : Nat} {k : NestedKey} {v d : V} {u r : Value} {A : Around} {E : Value → Shared → Prop}
theorem room_n (hu : A.units + 64 < cLine) : (nestedKind P w).room A.in1 := by
  have : A.in1.units ≤ A.units + 1 := by
    first | exact Nat.le_refl _ | exact Nat.le_add_right _ _ | simp [Around.in1, Around.units]
  show A.in1.units + 8 < cLine
  omega
theorem n_getItem {Q : Value → Shared → Prop} (hu : A.units + 64 < cLine) (I : Inv X pins σ H s) (e : H a = some (dN (pwOf X) a xs ep)) (hk : KeysAt X.prog X.w H xs) (kb : KeyAt X.prog X.w H b k) (hv : atK xs k = some v) (h : ∀ w' s', Inv X pins σ H s' → RelV v w' → Q w' s') :
    wpAny (model X.prog X.w) A (getItem (.ref a) (.ref b)) Q E s := by
  obtain ⟨z, hd, ys, rel, dd⟩ := dn_at I.hok e hk
  obtain ⟨w', hw, rw'⟩ := RelO.some_of (v := v) (o := (atKey ys k).map (·.2)) (by rw [← hv]; exact rel.at k)
  obtain ⟨p, hp, hp2⟩ := Option.map_eq_some_iff.mp hw
  refine wpAny_getItem_heap (room_n hu) (kb _ I.hok) dd hp ?_
  rw [hp2]
  exact h w' _ (I.tok _) rw'
theorem n_in {Q : Value → Shared → Prop} (hu : A.units + 64 < cLine) (I : Inv X pins σ H s) (e : H a = some (dN (pwOf X) a xs ep)) (hk : KeysAt X.prog X.w H xs) (kb : KeyAt X.prog X.w H b k) (h : ∀ s', Inv X pins σ H s' → Q (.bool (atK xs k).isSome) s') :
    wpAny (model X.prog X.w) A (compareOp .In (.ref b) (.ref a)) Q E s := by
  obtain ⟨z, hd, ys, rel, dd⟩ := dn_at I.hok e hk
  refine wpAny_in_heap (room_n hu) (kb _ I.hok) hd dd ?_
  have q := (rel.at k).isSome_eq
  rw [Option.isSome_map] at q
  rw [← q]
  exact h _ (I.tok _)
theorem n_notIn {Q : Value → Shared → Prop} (hu : A.units + 64 < cLine) (I : Inv X pins σ H s) (e : H a = some (dN (pwOf X) a xs ep)) (hk : KeysAt X.prog X.w H xs) (kb : KeyAt X.prog X.w H b k) (h : ∀ s', Inv X pins σ H s' → Q (.bool (!(atK xs k).isSome)) s') :
    wpAny (model X.prog X.w) A (compareOp .NotIn (.ref b) (.ref a)) Q E s := by
  obtain ⟨z, hd, ys, rel, dd⟩ := dn_at I.hok e hk
  refine wpAny_notIn_heap (room_n hu) (kb _ I.hok) hd dd ?_
  have q := (rel.at k).isSome_eq
  rw [Option.isSome_map] at q
  rw [← q]
  exact h _ (I.tok _)
theorem n_setItem {Q : Unit → Shared → Prop} (hu : A.units + 64 < cLine) (I : Inv X pins σ H s) (e : H a = some (dN (pwOf X) a xs ep)) (hk : KeysAt X.prog X.w H xs) (kb : KeyAt X.prog X.w H b k) (hl : xs.length < sizeLine) (rv : RelV v r)
    (h : ∀ s' ep', Inv X pins σ (upd H a (dN (pwOf X) a (stK xs k b v) ep')) s' → Q () s') : wpAny (model X.prog X.w) A (setItem (.ref a) (.ref b) r) Q E s := by
  obtain ⟨z, hd, ys, rel, dd⟩ := dn_at I.hok e hk
  have hz : ys.length ≤ sizeLine := by rw [← Paired.length rel]; exact z
  have hl' : (stK xs k b v).length ≤ sizeLine := by have := stK_length xs k b v; omega
  refine wpAny_setItem_heap (hsz := hz) (room_n hu) (kb _ I.hok) dd fun h' dd' hs => ?_
  obtain ⟨ep', ok⟩ := dn_ok (mg := X.mg) (H' := upd H a (dN (pwOf X) a (stK xs k b v) 0)) dd' (rel.put k b rv) hl' hd
  have he : ∃ q, h'.get? a = some q := let ⟨q, _, _, hq, _⟩ := dd'; ⟨q, hq⟩
  exact h _ ep' (d_write I (by rw [e]; exact True.intro) hs he ok)
theorem n_get2 {Q : Value → Shared → Prop} (hu : A.units + 64 < cLine) (I : Inv X pins σ H s) (e : H a = some (dN (pwOf X) a xs ep)) (hk : KeysAt X.prog X.w H xs) (kb : KeyAt X.prog X.w H b k) (rd : RelV d r) (h : ∀ w' s', Inv X pins σ H s' → RelV ((atK xs k).getD d) w' → Q w' s') :
    wpAny (model X.prog X.w) A (call (.builtin "dict.get") [.ref a, .ref b, r]) Q E s := by
  obtain ⟨z, hd, ys, rel, dd⟩ := dn_at I.hok e hk
  exact call_meetsIn PySem.F.slot_dict_get dd.typeIs PySem.F.entry_dict_get (PySem.F.args_dict_get_3 _ _ _) (meetsH_dict_get_default (nestedKind X.prog X.w) a b hd r) ⟨room_n hu, k, ys, kb _ I.hok, dd, h _ _ (I.tok _) ((rel.at k).getD rd)⟩
theorem n_typeIs (I : Inv X pins σ H s) (e : H a = some (dN (pwOf X) a xs ep)) : s.TypeIs (.ref a) "dict" ∧ (∀ b, Value.ref a = .ref b → ∃ ob, s.heap.get? b = some ob ∧ ob.dict = none) := by
  obtain ⟨⟨o, es, ys, h1, h2, _⟩, _, _⟩ := (show ObjOk X.prog X.w H s.heap a (dN (X.prog, X.w, X.mg) a xs ep) from I.hok a _ e)
  refine ⟨⟨o, h1, h2.1⟩, fun b q => ?_⟩
  cases q
  exact ⟨o, h1, h2.2.1⟩
end
end Dl
set_option autoImplicit true
/-! The data layer: dicts whose keys are tuples, the rules. -/
namespace Dl
open PySem PySem.Spec PyProof.Rows L2 TL
/-! ### what a dict holds -/
def keyT (d : D) : Option NestedKey := match d with
  | .tup l => match keyOf (.tup l) with
    | some k => if k.depth ≤ 8 then some k else none
    | none => none
  | _ => none
def dAt : List D → List D → NestedKey → Option D
  | k :: ks, v :: vs, kk => if keyOf k = some kk then some v else dAt ks vs kk
  | _, _, _ => none
def dRep : List D → List D → NestedKey → D → List D
  | k :: ks, v :: vs, kk, d => (if keyOf k = some kk then d else v) :: dRep ks vs kk d
  | _, _, _, _ => []
def dPut (ks vs : List D) (kd : D) (kk : NestedKey) (d : D) : List D × List D := if (dAt ks vs kk).isSome then (ks, dRep ks vs kk d) else (ks ++ [kd], vs ++ [d])
theorem keyT_of {d : D} {k : NestedKey} (h : keyT d = some k) : ∃ l, d = .tup l ∧ keyOf d = some k ∧ k.depth ≤ 8 := by
  cases d with
  | tup l =>
    unfold keyT at h
    dsimp only at h
    cases e : keyOf (.tup l) with
    | none => rw [e] at h; cases h
    | some kk =>
      rw [e] at h
      dsimp only at h
      by_cases z : kk.depth ≤ 8
      · rw [if_pos z] at h
        cases h
        exact ⟨l, rfl, rfl, z⟩
      · rw [if_neg z] at h
        cases h
  | _ => cases h
section
variable {F : Hp} {io : List Addr} {kk : NestedKey}
theorem DPairs.lengths : ∀ {ks vs : List D} {xs : List (NestedKey × Addr × V)}, DPairs F io ks vs xs → ks.length = xs.length ∧ vs.length = xs.length
  | _, _, _, .nil => ⟨rfl, rfl⟩
  | _, _, _, .cons _ _ _ _ t => ⟨congrArg (· + 1) (DPairs.lengths t).1, congrArg (· + 1) (DPairs.lengths t).2⟩
theorem atK_pos {k : NestedKey} {b : Addr} {u : V} {xs : List (NestedKey × Addr × V)} (e : k = kk) : atK ((k, b, u) :: xs) kk = some u := by simp [atK, List.find?_cons, e]
theorem atK_neg {k : NestedKey} {b : Addr} {u : V} {xs : List (NestedKey × Addr × V)} (e : ¬ k = kk) : atK ((k, b, u) :: xs) kk = atK xs kk := by simp [atK, List.find?_cons, e]
theorem DPairs.at : ∀ {ks vs : List D} {xs : List (NestedKey × Addr × V)}, DPairs F io ks vs xs → (∀ d, dAt ks vs kk = some d → ∃ v, atK xs kk = some v ∧ Rep F io d v) ∧ (dAt ks vs kk = none → atK xs kk = none)
  | _, _, _, .nil => ⟨fun d h => (by cases h), fun _ => rfl⟩
  | _, _, _, .cons (k := k) (v := v) (u := u) (kk := k1) r e z q t => by
    obtain ⟨h1, h2⟩ := DPairs.at t
    unfold dAt
    by_cases c : k1 = kk
    · have c' : keyOf k = some kk := by rw [e, c]
      rw [if_pos c', atK_pos c]
      exact ⟨fun d h => (by cases h; exact ⟨u, rfl, q⟩), fun h => (by cases h)⟩
    · have c' : ¬ keyOf k = some kk := fun z => c (by rw [e] at z; exact Option.some.inj z)
      rw [if_neg c', atK_neg c]
      exact ⟨h1, h2⟩
theorem DPairs.isSome {ks vs : List D} {xs : List (NestedKey × Addr × V)} (h : DPairs F io ks vs xs) : (atK xs kk).isSome = (dAt ks vs kk).isSome := by
  cases e : dAt ks vs kk with
  | none => rw [h.at.2 e]; rfl
  | some d =>
    obtain ⟨v, e', _⟩ := h.at.1 d e
    rw [e']
    rfl
theorem DPairs.snoc {kd d : D} {b : Addr} {v : V} (r : Rep F io kd (.ref b)) (e : keyOf kd = some kk) (z : kk.depth ≤ 8) (q : Rep F io d v) : ∀ {ks vs : List D} {xs : List (NestedKey × Addr × V)}, DPairs F io ks vs xs → DPairs F io (ks ++ [kd]) (vs ++ [d]) (xs ++ [(kk, b, v)])
  | _, _, _, .nil => .cons r e z q .nil
  | _, _, _, .cons r1 e1 z1 q1 t => .cons r1 e1 z1 q1 (DPairs.snoc r e z q t)
theorem DPairs.rep {d : D} {v : V} (q : Rep F io d v) : ∀ {ks vs : List D} {xs : List (NestedKey × Addr × V)}, DPairs F io ks vs xs → DPairs F io ks (dRep ks vs kk d) (xs.map fun x => if x.1 = kk then (x.1, x.2.1, v) else x)
  | _, _, _, .nil => .nil
  | _, _, _, .cons (k := k) (kk := k1) r1 e1 z1 q1 t => by
    unfold dRep
    rw [List.map_cons]
    by_cases c : k1 = kk
    · have c' : keyOf k = some kk := by rw [e1, c]
      rw [if_pos c', if_pos c]
      exact .cons r1 e1 z1 q (DPairs.rep q t)
    · have c' : ¬ keyOf k = some kk := fun z => c (by rw [e1] at z; exact Option.some.inj z)
      rw [if_neg c', if_neg c]
      exact .cons r1 e1 z1 q1 (DPairs.rep q t)
theorem DPairs.put {kd d : D} {b : Addr} {v : V} {ks vs : List D} {xs : List (NestedKey × Addr × V)} (h : DPairs F io ks vs xs) (r : Rep F io kd (.ref b)) (e : keyOf kd = some kk) (z : kk.depth ≤ 8) (q : Rep F io d v) : DPairs F io (dPut ks vs kd kk d).1 (dPut ks vs kd kk d).2 (stK xs kk b v) := by
  unfold dPut stK
  rw [h.isSome]
  by_cases c : (dAt ks vs kk).isSome = true
  · rw [if_pos c, if_pos c]
    exact h.rep q
  · rw [if_neg c, if_neg c]
    exact h.snoc r e z q
end
/-! ### readings and rules -/
def rNIx (pw : PWd) : R2 := fun x y H Q => ∃ a b xs ep k v, x = .ref a ∧ y = .ref b ∧ H a = some (dN pw a xs ep) ∧ KeysAt pw.1 pw.2.1 H xs ∧ KeyAt pw.1 pw.2.1 H b k ∧ atK xs k = some v ∧ Q v H
def rNIn (pw : PWd) (neg : Bool) : R2 := fun y x H Q => ∃ a b xs ep k, x = .ref a ∧ y = .ref b ∧ H a = some (dN pw a xs ep) ∧ KeysAt pw.1 pw.2.1 H xs ∧ KeyAt pw.1 pw.2.1 H b k ∧ Q (.bl (if neg then !(atK xs k).isSome else (atK xs k).isSome)) H
def sNPut (pw : PWd) (td ty tv : TE) : TS := fun D σ H => tv σ H fun v H1 => td σ H1 fun x H2 => ty σ H2 fun y H3 => ∃ a b xs ep k, x = .ref a ∧ y = .ref b ∧ H3 a = some (dN pw a xs ep) ∧ KeysAt pw.1 pw.2.1 H3 xs ∧ KeyAt pw.1 pw.2.1 H3 b k ∧ xs.length < sizeLine ∧ ∀ ep', D.nx σ (upd H3 a (dN pw a (stK xs k b v) ep'))
def tNGet2 (pw : PWd) (td ty tx : TE) : TE := fun σ H Q => td σ H fun x H1 => ∃ a xs ep, x = .ref a ∧ H1 a = some (dN pw a xs ep) ∧ ty σ H1 fun y H2 => tx σ H2 fun z H3 => ∃ b xs ep k, y = .ref b ∧ H3 a = some (dN pw a xs ep) ∧ KeysAt pw.1 pw.2.1 H3 xs ∧ KeyAt pw.1 pw.2.1 H3 b k ∧ Q ((atK xs k).getD z) H3
def tNNew (pw : PWd) : TE := fun _ H Q => ∀ p, H p = none → Q (.ref p) (upd H p (dN pw p [] 0))
section
variable {X : Cx} {o i e f value : Expr} {pos pos' tpos apos cpos : Pos} {td ty tv tx : TE}
theorem pe_nix (hu : X.A.units + 64 < cLine) (ho : PE X o td) (hi : PE X i ty) (hs : NoSl i) : PE X (.Subscript o i pos) (tOp (rNIx (pwOf X)) td ty) := by
  refine ⟨fun pins s σ H Q I h => ?_⟩
  refine subD_of PySem.F.slot_dict_getitem.lookup hs (thn (ho.run pins s σ H _ I h) fun u s1 ⟨x, H1, I1, rx, q1⟩ => thn (hi.run pins s1 σ H1 _ I1 q1) fun iv s2 ⟨y, H2, I2, ry, a, b, xs, ep, k, v, ex, ey, e, hk, kb, hv, q2⟩ => ?_)
  subst ex ey
  obtain rfl : u = Value.ref a := rx
  obtain rfl : iv = Value.ref b := ry
  exact ⟨(n_typeIs I2 e).1, n_getItem hu I2 e hk kb hv fun w' s3 I3 rw' => ⟨v, H2, I3, rw', q2⟩⟩
theorem op_nin (hu : X.A.units + 64 < cLine) : OpR X (compareOp .In) (rNIn (pwOf X) false) := by
  intro pins s σ H y x v u Q I ry rx h
  obtain ⟨a, b, xs, ep, k, ex, ey, e, hk, kb, q⟩ := h
  subst ex ey
  obtain rfl : u = Value.ref a := rx
  obtain rfl : v = Value.ref b := ry
  exact n_in hu I e hk kb fun s3 I3 => ⟨.bl (atK xs k).isSome, H, I3, rfl, q⟩
theorem op_nnin (hu : X.A.units + 64 < cLine) : OpR X (compareOp .NotIn) (rNIn (pwOf X) true) := by
  intro pins s σ H y x v u Q I ry rx h
  obtain ⟨a, b, xs, ep, k, ex, ey, e, hk, kb, q⟩ := h
  subst ex ey
  obtain rfl : u = Value.ref a := rx
  obtain rfl : v = Value.ref b := ry
  exact n_notIn hu I e hk kb fun s3 I3 => ⟨.bl (!(atK xs k).isSome), H, I3, rfl, q⟩
theorem ps_nput (hu : X.A.units + 64 < cLine) (ho : PE X o td) (hi : PE X i ty) (hv : PE X value tv) (hs : swapsWith value (some (.Subscript o i pos')) pos.line X.env = pure false) :
    PS X (.Assign [.Subscript o i pos'] value pos) (sNPut (pwOf X) td ty tv) := by
  refine ⟨fun pins s σ H D I h => ?_⟩
  refine wpAny_Assign_Subscript (thn (hv.run pins s σ H _ I h) fun r s1 ⟨v, H1, I1, rv, q1⟩ => thn (ho.run pins s1 σ H1 _ I1 q1) fun u s2 ⟨x, H2, I2, rx, q2⟩ => thn (hi.run pins s2 σ H2 _ I2 q2) fun iv s3 ⟨y, H3, I3, ry, a, b, xs, ep, k, ex, ey, e, hk, kb, hl, q3⟩ => ?_) hs
  subst ex ey
  obtain rfl : u = Value.ref a := rx
  obtain rfl : iv = Value.ref b := ry
  exact n_setItem hu I3 e hk kb hl rv fun s4 ep' I4 => ⟨σ, _, I4, q3 ep'⟩
theorem pe_nget2 (hu : X.A.units + 64 < cLine) (ho : PE X o td) (he : PE X e ty) (hf : PE X f tx) (m : M2 X o "get" apos e f cpos) : PE X (.Call (.Attribute o "get" apos) [e, f] [] cpos) (tNGet2 (pwOf X) td ty tx) := by
  refine ⟨fun pins s σ H Q I h => ?_⟩
  refine wpAny_Call_method m.base m.few m.line PySem.F.plainAttrs_dict PySem.F.slot_dict_get PySem.F.type_dict_get (thn (ho.run pins s σ H _ I h) fun u s1 ⟨x, H1, I1, rx, a, xs, ep, ex, d, q1⟩ => ?_)
  subst ex
  obtain rfl : u = Value.ref a := rx
  obtain ⟨t1, t2⟩ := n_typeIs I1 d
  refine ⟨t1, t2, ?_⟩
  rw [m.trees]
  refine Calls.callWith_builtin rfl (Calls.evalArgs_plain (Calls.spliced_cons (thn (he.run pins s1 σ H1 _ I1 q1) fun iv s2 ⟨y, H2, I2, ry, q2⟩ =>
    Calls.spliced_cons (thn (hf.run pins s2 σ H2 _ I2 q2) fun fv s3 ⟨z, H3, I3, rz, b, xs, ep, k, ey, e, hk, kb, q3⟩ => Calls.spliced_nil ?_))))
  subst ey
  obtain rfl : iv = Value.ref b := ry
  exact n_get2 hu I3 e hk kb rz fun w' s4 I4 rw' => ⟨_, H3, I4, rw', q3⟩
theorem pe_nnew : PE X (.Dict [] [] pos) (tNNew (pwOf X)) := ⟨fun pins s σ H Q I h =>
  wpAny_Dict_empty ⟨.ref s.heap.objs.size, _, I.laid (a := s.heap.objs.size) (o := dN (pwOf X) s.heap.objs.size [] 0) (t' := s.toks) (fun _ _ q => Heap.get?_push_of_some _ q) (Nat.le_refl _) (dn_new I.big), rfl, h _ (I.hok.fresh (Nat.le_refl _))⟩⟩
end
/-! ### the same over values as trees -/
def opIxN (a b : D) (m : Sto) : R D := match a with
  | .own ks vs => (match keyT b with
    | some k => ofO (dAt ks vs k) m
    | none => .bad)
  | _ => .bad
def opInN (b a : D) (m : Sto) : R D := match a with
  | .own ks vs => (match keyT b with
    | some k => .ok (.bl (dAt ks vs k).isSome) m
    | none => .bad)
  | _ => .bad
def opNinN (b a : D) (m : Sto) : R D := match a with
  | .own ks vs => (match keyT b with
    | some k => .ok (.bl (!(dAt ks vs k).isSome)) m
    | none => .bad)
  | _ => .bad
section
variable {x y : Sx pw} {r : Env} {m : Sto} {s : L2.St} {H H' : Hp} {w : Wi} {E : Ends} {X : Cx} {e a b c f : Expr} {pos : Pos} {fa fb fe ff : SE}
/-- a key that is looked at stands -/
theorem Pk.key {d : D} {v : V} {k : NestedKey} (h : Pk x H d v) (R : Rel x r m s H) (e : keyT d = some k) : ∃ b, v = .ref b ∧ Rep x.F x.io d (.ref b) ∧ KeyAt pw.1 pw.2.1 H b k ∧ keyOf d = some k ∧ k.depth ≤ 8 := by
  obtain ⟨l, rfl, e1, z⟩ := keyT_of e
  obtain ⟨a, vs, rfl, hF, _, q⟩ := h.tup R
  exact ⟨a, rfl, .tup hF q, keyAt_of R.sub (.tup hF q) e1 z, e1, z⟩
theorem od_ixN : OpD pw w opIxN (rNIx pw) := by
  intro x e m s H Q da db va vb R pa pb h
  cases da with
  | own ks vs =>
    unfold opIxN at h
    dsimp only at h
    cases hk : keyT db with
    | none => rw [hk] at h; exact h.elim
    | some k =>
      rw [hk] at h
      dsimp only at h
      obtain ⟨a, ep, xs, rfl, ha, e, dp⟩ := pa.own
      obtain ⟨b, rfl, rb, kb, _, _⟩ := pb.key R hk
      cases hv : dAt ks vs k with
      | none => rw [hv] at h; exact h.elim
      | some d =>
        rw [hv] at h
        obtain ⟨v, e', rv⟩ := dp.at.1 d hv
        exact ⟨a, b, xs, ep, k, v, rfl, rfl, e, keysAt_of R.sub dp, kb, e', Fin.here R h rv⟩
  | _ => exact h.elim
theorem od_inN : OpD pw w opInN (rNIn pw false) := by
  intro x e m s H Q db da vb va R pb pa h
  cases da with
  | own ks vs =>
    unfold opInN at h
    dsimp only at h
    cases hk : keyT db with
    | none => rw [hk] at h; exact h.elim
    | some k =>
      rw [hk] at h
      obtain ⟨a, ep, xs, rfl, ha, e, dp⟩ := pa.own
      obtain ⟨b, rfl, rb, kb, _, _⟩ := pb.key R hk
      refine ⟨a, b, xs, ep, k, rfl, rfl, e, keysAt_of R.sub dp, kb, ?_⟩
      rw [if_neg Bool.false_ne_true, dp.isSome]
      exact Fin.here R h (.bl _)
  | _ => exact h.elim
theorem od_ninN : OpD pw w opNinN (rNIn pw true) := by
  intro x e m s H Q db da vb va R pb pa h
  cases da with
  | own ks vs =>
    unfold opNinN at h
    dsimp only at h
    cases hk : keyT db with
    | none => rw [hk] at h; exact h.elim
    | some k =>
      rw [hk] at h
      obtain ⟨a, ep, xs, rfl, ha, e, dp⟩ := pa.own
      obtain ⟨b, rfl, rb, kb, _, _⟩ := pb.key R hk
      refine ⟨a, b, xs, ep, k, rfl, rfl, e, keysAt_of R.sub dp, kb, ?_⟩
      rw [if_pos rfl, dp.isSome]
      exact Fin.here R h (.bl _)
  | _ => exact h.elim
theorem de_ixN (hu : X.A.units + 64 < cLine) (ha : DK X w a fa) (hb : DK X w b fb) (hs : NoSl b := by exact fun _ _ => rfl) : DE X w (.Subscript a b pos) (sBin opIxN fa fb) := PE.imp (pe_nix hu ha hb hs) fun s H Q q => rd_bin od_ixN s H Q q
theorem de_inN (hu : X.A.units + 64 < cLine) (ha : DK X w a fa) (hb : DK X w b fb) (hm : behindInMarks .In b = false := by rfl) : DE X w (.Compare a [.In] [b] pos) (sBin opInN fa fb) := de_cmp (op_nin hu) od_inN ha hb hm
theorem de_ninN (hu : X.A.units + 64 < cLine) (ha : DK X w a fa) (hb : DK X w b fb) (hm : behindInMarks .NotIn b = false := by rfl) : DE X w (.Compare a [.NotIn] [b] pos) (sBin opNinN fa fb) := de_cmp (op_nnin hu) od_ninN ha hb hm
theorem dt_inN (hu : X.A.units + 64 < cLine) (ha : DK X w a fa) (hb : DK X w b fb) (hm : behindInMarks .In b = false := by rfl) : DT X w (.Compare a [.In] [b] pos) (sB (sBin opInN fa fb)) := dt_cmp (op_nin hu) od_inN ha hb hm
theorem dt_ninN (hu : X.A.units + 64 < cLine) (ha : DK X w a fa) (hb : DK X w b fb) (hm : behindInMarks .NotIn b = false := by rfl) : DT X w (.Compare a [.NotIn] [b] pos) (sB (sBin opNinN fa fb)) := dt_cmp (op_nnin hu) od_ninN ha hb hm
/-- d.get(k, x), d a slot's own -/
def sGet2 (i : Nat) (f g : SE) : SE := fun r m => match r[i]? with
  | some (some (.dct ks vs)) => bindR (f r m) fun kd m => bindR (g r m) fun d m => (match keyT kd with
    | some k => .ok ((dAt ks vs k).getD d) m
    | none => .bad)
  | _ => .bad
/-- a slot's own dict -/
theorem Rel.dctAt {ks vs : List D} (R : Rel x r m s H) {i : Nat} (h : r[i]? = some (some (.dct ks vs))) : ∃ a ep xs, s[i]? = some (some (.ref a)) ∧ a ∈ x.A1 ∧ H a = some (dN pw a xs ep) ∧ DPairs x.F x.io ks vs xs := by
  obtain ⟨a, ep, xs, h1, h2, h3, h4, _⟩ := R.ownD h
  exact ⟨a, ep, xs, h1, h2, h3, h4⟩
theorem de_get2 {i : Nat} {o : Expr} {apos : Pos} (hu : X.A.units + 64 < cLine) (ho : PE X o (tVar i)) (he : DE X w e fe) (hf : DE X w f ff) (hm : M2 X o "get" apos e f pos) : DE X w (.Call (.Attribute o "get" apos) [e, f] [] pos) (sGet2 i fe ff) :=
  PE.imp (pe_nget2 hu ho he hf hm) fun s H Q ⟨x, r, m, R, q⟩ => by
    unfold sGet2 at q
    split at q
    · rename_i ks vs hd
      obtain ⟨a, ep, xs, h1, h2, h3, h4⟩ := R.dctAt hd
      refine ⟨.ref a, h1, a, xs, ep, rfl, h3, ?_⟩
      refine rd_bind R q fun kd m1 kv y H1 R1 p1 st1 q1 => ?_
      refine rd_bind R1 q1 fun d m2 dv z H2 R2 p2 st2 q2 => ?_
      cases hk : keyT kd with
      | none => rw [hk] at q2; exact q2.elim
      | some k =>
        rw [hk] at q2
        dsimp only at q2
        obtain ⟨a', ep', xs', g1, g2, g3, g4⟩ := R2.dctAt hd
        have ea : a' = a := by
          rw [h1] at g1
          cases g1
          rfl
        subst ea
        obtain ⟨b, rfl, rb, kb, _, _⟩ := (Pk.of (H := H2) (p1.mono st2.st.F st2.st.io)).key R2 hk
        refine ⟨b, xs', ep', k, rfl, g3, keysAt_of R2.sub g4, kb, ?_⟩
        cases hv : dAt ks vs k with
        | none =>
          rw [hv] at q2
          rw [g4.at.2 hv]
          exact Fin.here R2 q2 p2
        | some d' =>
          rw [hv] at q2
          obtain ⟨v, e', rv⟩ := g4.at.1 d' hv
          rw [e']
          exact Fin.here R2 q2 rv
    · exact q.elim
/-- d[k] = e, d a slot's own -/
def sPutD (i : Nat) (k f : SE) : SS := fun r m => match r[i]? with
  | some (some (.dct ks vs)) => bindS r (f r m) fun d m => bindS r (k r m) fun kd m => (match keyT kd with
    | some kk => if ks.length < LIM then .nx (r.set i (some (.dct (dPut ks vs kd kk d).1 (dPut ks vs kd kk d).2))) m else .bad
    | none => .bad)
  | _ => .bad
theorem ds_putD {i : Nat} {o : Expr} {pos' : Pos} (hu : X.A.units + 64 < cLine) (ho : PE X o (tVar i)) (hk : DE X w b fb) (he : DE X w e fe) (hs : swapsWith e (some (.Subscript o b pos')) pos.line X.env = pure false := by rfl) :
    DS X w (.Assign [.Subscript o b pos'] e pos) (sPutD i fb fe) := PS.imp (ps_nput hu ho hk he hs) fun E s H ⟨x, r, m, R, q⟩ => by
  unfold sPutD at q
  split at q
  · rename_i ks vs hd
    refine rd_bindS R q fun d m1 v y H1 R1 p1 st1 q1 => ?_
    obtain ⟨a, ep, xs, h1, h2, h3, h4⟩ := R1.dctAt hd
    refine ⟨.ref a, h1, ?_⟩
    refine rd_bindS R1 q1 fun kd m2 kv z H2 R2 p2 st2 q2 => ?_
    cases hk : keyT kd with
    | none => rw [hk] at q2; exact q2.elim
    | some k =>
      rw [hk] at q2
      obtain ⟨hz, q2⟩ := FinS.ite q2
      obtain ⟨a', ep', xs', g1, g2, g3, g4, up⟩ := R2.ownD hd
      have ea : a' = a := by
        rw [h1] at g1
        cases g1
        rfl
      subst ea
      obtain ⟨b, rfl, rb, kb, e1, z1⟩ := (Pk.of (H := H2) p2).key R2 hk
      refine ⟨a', b, xs', ep', k, rfl, rfl, g3, keysAt_of R2.sub g4, kb, by rw [← g4.lengths.1, ← lim_eq]; exact hz, fun ep2 => ?_⟩
      obtain ⟨u, R3, st3⟩ := up _ _ _ ep2 (g4.put rb e1 z1 (p1.mono st2.st.F st2.st.io))
      exact q2 s u _ R3 st3
  · exact q.elim
/-- {} -/
def cDct : SCe := fun _ m => .ok (.dct [] []) m
theorem dc_dct : DC X w (.Dict [] [] pos) cDct := PE.imp pe_nnew fun s H Q ⟨x, r, m, R, q⟩ => fun a ha => by
  have haF : x.F a = none := by
    cases e : x.F a with
    | none => rfl
    | some o => rw [R.sub _ _ e] at ha; cases ha
  have R2 : Rel x r m s (upd H a (dN (pwOf X) a [] 0)) := ⟨fun b o e => by rw [upd_ne (ne_of_none (R.sub _ _ e) ha)]; exact R.sub _ _ e, R.vars.mono (.refl _) (.refl _) fun b _ o e => by rw [upd_ne (ne_of_none e ha)]; exact e,
    R.sto.mono (.refl _) (.refl _) fun b _ o e => by rw [upd_ne (ne_of_none e ha)]; exact e, R.nd, R.nF⟩
  refine q (.ref a) x _ [a] R2 (.dct upd_same .nil) (fun b hb => ?_) ⟨⟨.refl _, .refl _, fun b o e _ => by rw [upd_ne (ne_of_none e ha)]; exact e, fun b e => ?_, fun b h1 h2 => absurd h1 h2, fun b h => .inl h⟩, rfl⟩
  · have e := List.mem_singleton.mp hb
    subst e
    exact ⟨haF, fun z => R.there b z ha, ha⟩
  · by_cases hb : b = a
    · subst hb
      exact ha
    · rw [upd_ne hb] at e
      exact e
end
end Dl
set_option autoImplicit true
/-! The data layer: dicts whose keys are tuples, walked. -/
namespace Dl
open PySem PySem.Spec PyProof.Rows L2 TL
section
variable {P : Program} {w : World} {H : Hp} {h : Heap} {a : Addr} {xs : List (NestedKey × Addr × V)} {ep : Nat} {pw : PWd}
theorem dn_raw (ok : HOk P w H h) (e : H a = some (dN pw a xs ep)) : (a == sysModules) = false ∧ xs.length ≤ sizeLine ∧ ∃ es, h.DictRaw a es ep ∧ es.size = xs.length ∧ ∀ i (hi : i < es.size), ∃ k b v, xs[i]? = some (k, b, v) ∧ es[i].key = .ref b ∧ RelV v es[i].val := by
  obtain ⟨⟨o, es, ys, h1, h2, h3, h4, h5, h6, h7, h8⟩, _, _⟩ := (show ObjOk P w H h a (dN pw a xs ep) from ok a _ e)
  have hl : xs.length = ys.length := Paired.length h5
  have hs : es.size = ys.length := size_of_entries h4
  refine ⟨h6, h7, es, ⟨o, h1, h2, h3⟩, hs.trans hl.symm, fun i hi => ?_⟩
  have hy : i < ys.length := hs ▸ hi
  have e' := entry_at h4 i
  rw [Array.getElem?_eq_getElem hi, List.getElem?_eq_getElem hy, Option.map_some] at e'
  have e' := Option.some.inj e'
  have pg : ∀ {l : List (NestedKey × Addr × V)} {m : List (NestedKey × Addr × Value)} {j : Nat} {y : NestedKey × Addr × Value}, PN l m → m[j]? = some y → ∃ x, l[j]? = some x ∧ x.1 = y.1 ∧ x.2.1 = y.2.1 ∧ RelV x.2.2 y.2.2 := by
    intro l m j y r
    induction r generalizing j with
    | nil => intro z; simp at z
    | @cons p q ps qs hq t ih =>
      intro z
      cases j with
      | zero =>
        have z := Option.some.inj (show some q = some y from z)
        subst z
        exact ⟨p, rfl, hq⟩
      | succ j =>
        obtain ⟨x, z1, z2⟩ := ih (j := j) (by simpa using z)
        exact ⟨x, by simpa using z1, z2⟩
  obtain ⟨⟨k, b, v⟩, x1, x2, x3, x4⟩ := pg h5 (List.getElem?_eq_getElem hy)
  refine ⟨k, b, v, x1, ?_, ?_⟩
  · rw [e']
    show Value.ref _ = Value.ref b
    rw [← x3]
  · rw [e']
    exact x4
end
/-- the pairs of a dict, each a new tuple -/
def ItN (pw : PWd) (a : Addr) (xs : List (NestedKey × Addr × V)) (ep : Nat) : It :=
  ⟨fun i H => H a = some (dN pw a xs ep) ∧ i < xs.length, fun i H x H' => ∃ T k b v, xs[i]? = some (k, b, v) ∧ x = .ref T ∧ H T = none ∧ H' = upd H T (.tup [.ref b, v]), fun i H => H a = some (dN pw a xs ep) ∧ xs.length ≤ i⟩
theorem turn_n {P : Program} {w : World} {K : PySem.W.Frag} {elts : List Expr} {kk : Nat} {tpos : Pos} {pw : PWd} {a : Addr} {xs : List (NestedKey × Addr × V)} {ep : Nat} (it : Addr) :
    Turn P w K (.Tuple elts kk tpos) (ItN pw a xs ep) [it] it (fun i h => ∃ ok ov, IsItemIter h it a i xs.length ep ok ov) where
  mem := by simp
  obj := fun i h st b hb => by
    have e : b = it := by simpa using hb
    subst e
    obtain ⟨ok, ov, e⟩ := st
    exact ⟨_, e, fun v z => nomatch z⟩
  keep := fun i h h' st k => let ⟨ok, ov, e⟩ := st; ⟨ok, ov, k it (by simp) _ e⟩
  item := by
    intro X hP hw hK hc i pins s σ H E I hf st hg
    subst hP hw hK
    obtain ⟨hd, hi⟩ := hg
    obtain ⟨hs, hz, es, hr, hl, hx⟩ := dn_raw I.hok hd
    obtain ⟨k, b, v, hkv, ek, ru⟩ := hx i (by omega)
    obtain ⟨ok, ov, he⟩ := st
    rw [← hl] at he
    have hlt : it < s.heap.objs.size := Heap.lt_size he
    refine wpAny_pyNext_items_item_raw he hr (by omega) fun h' ho hT hz hk => ?_
    refine ⟨_, rfl, wpAny_letOwnedTupleGo_items (s := { s with heap := h' }) ho fun h'' he' sb => ?_⟩
    have hT2 : h''.get? s.heap.objs.size = some { cls := .type "tuple", data := .seq #[es[i].key, es[i].val] } := (sb.2 _ (Nat.ne_of_gt hlt)).trans hT
    have new : ObjOk X.prog X.w (upd H s.heap.objs.size (.tup [.ref b, v])) h'' s.heap.objs.size (.tup [.ref b, v]) :=
      ⟨by show 2 ≤ sizeLine; decide, [es[i].key, es[i].val], .cons ek (.cons ru .nil), ⟨_, hT2, rfl, _, rfl⟩⟩
    have I1 : Inv X pins σ (upd H s.heap.objs.size (.tup [.ref b, v])) { s with heap := h'' } :=
      I.turnedNew (t' := s.toks) (ch := [it]) (fun b ob hb e => (sb.2 b (by simpa using hb)).trans (hk b ob (by simpa using hb) e)) hf (Nat.le_refl _) new
    refine ⟨.ref s.heap.objs.size, _, I1, rfl, ⟨_, k, b, v, hkv, rfl, I.hok.fresh (Nat.le_refl _), rfl⟩, ⟨es[i].key, es[i].val, ?_⟩, fun b hb => ?_⟩
    · rw [← hl]; exact he'
    · have e : b = it := by simpa using hb
      rw [e, upd_ne (Nat.ne_of_lt hlt)]
      exact (hf it (by simp)).1
  done := by
    intro X hP hw hK hc i pins s σ H E I hf st hg
    subst hP hw hK
    obtain ⟨hd, hi⟩ := hg
    obtain ⟨f0, f1, f2, f3, f4, f5⟩ := hf it (by simp)
    obtain ⟨hs, hz, es, hr, hl, hx⟩ := dn_raw I.hok hd
    obtain ⟨ok, ov, he⟩ := st
    rw [← hl] at he
    exact wpAny_pyNext_items_end_raw (I.ok.hd hc) he hr (by omega) fun h' eb => ⟨rfl, I.turned (t' := s.toks) (fun b ob hb e => eb b ob hb e) f0 f1 f3 f4 f5⟩
  self := fun A i s Q E st h => let ⟨_, _, e⟩ := st; PySem.W.kcp_self e h
def iNItems (td : TE) : TI := fun σ H R => td σ H fun x H1 => ∃ pw a xs ep, x = .ref a ∧ H1 a = some (dN pw a xs ep) ∧ R (ItN pw a xs ep) H1
theorem preSum_getD (is : List Int) : preSum (fun i => is.getD i 0) is.length = is.sum := by
  have h : ∀ n, n ≤ is.length → preSum (fun i => is.getD i 0) n = (is.take n).sum := by
    intro n
    induction n with
    | zero => intro _; rfl
    | succ n ih =>
      intro hn
      have hn' : n < is.length := hn
      show preSum (fun i => is.getD i 0) n + is.getD n 0 = _
      rw [ih (Nat.le_of_lt hn'), List.take_add_one, List.sum_append, List.getElem?_eq_getElem hn', List.getD_eq_getElem?_getD, List.getElem?_eq_getElem hn']
      simp
  rw [h _ (Nat.le_refl _), List.take_length]
/-- sum(d.values()), d's values ints -/
def tNSum (td : TE) : TE := fun σ H Q => td σ H fun x H1 => ∃ (pw : PWd) (a : Addr) (xs : List (NestedKey × Addr × V)) (ep : Nat) (is : List Int), x = V.ref a ∧ H1 a = some (dN pw a xs ep) ∧ xs.map (·.2.2) = is.map V.int ∧ Q (.int is.sum) H1
section
variable {X : Cx} {tg e o : Expr} {td : TE} {apos cpos mpos p pos : Pos}
theorem pi_nitems {elts : List Expr} {kk : Nat} {tpos : Pos} (he : PE X e td) (hbase : attributeBase e "items" X.env (eval e X.env) = eval e X.env := by rfl) (hline : (apos.endLine == cpos.line) = true := by rfl) :
    PI X (.Tuple elts kk tpos) (.Call (.Attribute e "items" apos) [] [] cpos) (iNItems td) := by
  refine ⟨fun pins s σ H R I h => ?_⟩
  refine wpAny_Call_method (T := "dict") (id := "dict.items") hbase rfl hline F.plainAttrs_dict F.slot_dict_items F.type_dict_items (thn (he.run pins s σ H _ I h) fun u s1 ⟨x, H1, I1, rx, pw, d, xs, ep, ex, hd, q⟩ => ?_)
  subst ex
  obtain rfl : u = Value.ref d := rx
  obtain ⟨hs, hz, es, hr, hl, hx⟩ := dn_raw I1.hok hd
  refine ⟨hr.typeIs, fun b e => ?_, ?_⟩
  · cases e
    obtain ⟨ob, h1, h2, _⟩ := hr
    exact ⟨ob, h1, h2.2.1⟩
  have I2 : Inv X pins σ H1 { s1 with heap := s1.heap.push { cls := .type "dict_items", data := .fields #[.ref d] } } := I1.kept (t' := s1.toks) fun b ob q => Heap.get?_push_of_some _ q
  have fin : wpAny (model X.prog X.w) X.A (pyIter (.ref s1.heap.objs.size)) (PIE X pins σ (.Tuple elts kk tpos) R) X.xe { s1 with heap := s1.heap.push { cls := .type "dict_items", data := .fields #[.ref d] } } := by
    refine wpAny_pyIter_items_raw (d := d) ⟨_, Heap.get?_push_size _ rfl, rfl, rfl⟩ (hr.at fun o e => Heap.get?_push_of_some _ e) (pi_one (tk := s1.toks) I2 _ (turn_n _) ⟨.none, .none, ?_⟩ q)
    rw [← hl]
    exact Heap.get?_push_size _ rfl
  show wpAny _ _ (callWith cpos (.builtin "dict.items") [.ref d] [] []) _ X.xe s1
  exact method_meetsIn F.slot_dict_items F.entry_dict_items rfl (PySem.evalArgs_none ⟨rfl, hr.typeIs, F.args_dict_items_1 _, _, meets_dict_items_raw d hs, ⟨es, ep, hr⟩, fin⟩)
theorem pe_nsum (hc : X.calm = true) (hg : Gl X "sum") (hm : X.mg "sum" = none) (hd : PE X o td) (hbase : attributeBase o "values" X.env (eval o X.env) = eval o X.env := by rfl) (hline : (apos.endLine == mpos.line) = true := by rfl)
    (hse : starEach [Expr.Call (.Attribute o "values" apos) [] [] mpos] X.env = [(false, eval (Expr.Call (.Attribute o "values" apos) [] [] mpos) X.env)] := by rfl) :
    PE X (.Call (.Name "sum" p) [.Call (.Attribute o "values" apos) [] [] mpos] [] pos) (tNSum td) := by
  refine ⟨fun pins s σ H Q I h => ?_⟩
  refine wpAny_Call_Name_kw (ld_blt I hg hm (u := .builtin "sum") (by first | rfl | decide +kernel) ?_ (by first | decide +kernel | decide) (by first | decide +kernel | decide))
  rw [hse]
  refine PySem.callWith_builtin1 (wpAny_Call_method0_late hbase hline (thn (hd.run pins s σ H _ I h) fun v s1 ⟨x, H1, I1, r1, pw, a, xs, ep, is, ex, ha, hv, q⟩ => ?_))
  subst ex
  obtain rfl : v = Value.ref a := r1
  obtain ⟨hsys, hz, es, hr, hl, hx⟩ := dn_raw I1.hok ha
  have hr' := hr
  obtain ⟨ob, ho, ex, hdat⟩ := hr'
  refine ⟨"dict", "dict.values", F.plainAttrs_dict, F.slot_dict_values, F.type_dict_values, ⟨ob, ho, ex.1⟩, fun b e => ?_, Calls.callWith_builtin rfl (PySem.evalArgs_none ?_)⟩
  · cases e
    exact ⟨ob, ho, ex.2.1⟩
  refine call_meetsIn F.slot_dict_values ⟨ob, ho, ex.1⟩ F.entry_dict_values (F.args_dict_values_1 _) (meets_dict_values_raw a hsys) ⟨⟨es, ep, hr⟩, ?_⟩
  have k1 : ∀ b u, s1.heap.get? b = some u → (s1.heap.push { cls := .type "dict_values", data := .fields #[.ref a] }).get? b = some u := fun b u e => Heap.get?_push_of_some _ e
  have dat1 : (s1.heap.push { cls := .type "dict_values", data := .fields #[.ref a] }).DictRaw a es ep := hr.at fun o e => k1 _ _ e
  have hval : ∀ (i : Nat) (v : Value), (∃ hi : i < es.size, v = es[i].val) → ∃ t, v = Value.int (is.getD i 0) t := fun i v ⟨hi, e⟩ => by
    subst e
    obtain ⟨k, b, u, h1, _, h2⟩ := hx i hi
    have e1 : (xs.map (·.2.2))[i]? = some u := by rw [List.getElem?_map, h1] <;> rfl
    rw [hv, List.getElem?_map] at e1
    obtain ⟨j, hj, e2⟩ := Option.map_eq_some_iff.mp e1
    subst e2
    obtain ⟨t, e3⟩ := h2
    refine ⟨t, ?_⟩
    rw [e3, List.getD_eq_getElem?_getD, hj] <;> rfl
  have hli : es.size = is.length := by
    have e1 := congrArg List.length hv
    rw [List.length_map, List.length_map] at e1
    rw [hl, e1]
  refine call_sum_walkAnyS (wpAny_pyIter_values_raw (v := s1.heap.objs.size) (d := a) ⟨_, Heap.get?_push_size _ rfl, rfl, rfl⟩ dat1 ?_)
  have hlt : a < s1.heap.objs.size := Heap.lt_size ho
  have hsz : (s1.heap.push { cls := .type "dict_values", data := .fields #[.ref a] }).objs.size = s1.heap.objs.size + 1 := Heap.size_push _ _
  refine ⟨_, _, _, _, _, _, _, fun i => is.getD i 0, rfl, (Walks.rawValues (A := X.A.in1) (I.ok.hd hc) (s1.heap.push { cls := .type "dict_values", data := .fields #[.ref a] }).objs.size a (by rw [hsz]; exact Nat.ne_of_lt (Nat.lt_succ_of_lt hlt)) es ep).toS,
    ⟨⟨_, Heap.get?_push_size _ rfl, rfl, rfl⟩, dat1.at fun u e => Heap.get?_push_of_some _ e⟩, fun b hb => ?_, hval, fun s' t' hm' => ?_⟩
  · show b < ((s1.heap.push _).push _).objs.size
    rw [Heap.size_push, Heap.size_push]
    rw [hsz] at hb
    rcases List.mem_cons.mp hb with e | hb
    · rw [e]
      exact Nat.lt_succ_self _
    · have e : b = a := List.mem_singleton.mp hb
      rw [e]
      exact Nat.lt_succ_of_lt (Nat.lt_succ_of_lt hlt)
  · have hk : ∀ b u, s1.heap.get? b = some u → s'.heap.get? b = some u := fun b u e => hm'.heap b u (fun hmem => by
      have e1 : b = (s1.heap.push { cls := .type "dict_values", data := .fields #[.ref a] }).objs.size := List.mem_singleton.mp hmem
      have e2 := Heap.lt_size e
      rw [hsz] at e1
      rw [e1] at e2
      exact absurd e2 (Nat.not_lt.mpr (Nat.le_succ _))) (Heap.get?_push_of_some _ (k1 b u e))
    have es' : preSum (fun i => is.getD i 0) es.size = is.sum := by
      rw [hli]
      exact preSum_getD is
    rw [es', Moved.eq_with hm']
    exact ⟨.int is.sum, H1, I1.kept (t' := s'.toks) hk, ⟨_, rfl⟩, q⟩
end
end Dl
set_option autoImplicit true
/-! The data layer: dicts walked and summed, over values as trees. -/
namespace Dl
open PySem PySem.Spec PyProof.Rows L2 TL
/-- the pairs -/
def zipD : List D → List D → List D
  | k :: ks, v :: vs => .tup [k, v] :: zipD ks vs
  | _, _ => []
def sItems (f : SE) : SL := fun r m => bindR (f r m) fun d m => match d with
  | .dct ks vs => .ok (zipD ks vs) m
  | _ => .bad
def sSumV (f : SE) : SE := fun r m => bindR (f r m) fun d m => match d with
  | .dct _ vs => ofO ((intsOf vs).map fun is => .int is.sum) m
  | _ => .bad
theorem DPairs.zip_length {F : Hp} {io : List Addr} : ∀ {ks vs : List D} {xs : List (NestedKey × Addr × V)}, DPairs F io ks vs xs → (zipD ks vs).length = xs.length
  | _, _, _, .nil => rfl
  | _, _, _, .cons _ _ _ _ t => congrArg (· + 1) (DPairs.zip_length t)
theorem DPairs.zip_get {F : Hp} {io : List Addr} : ∀ {ks vs : List D} {xs : List (NestedKey × Addr × V)} {i : Nat} {k : NestedKey} {b : Addr} {u : V}, DPairs F io ks vs xs → xs[i]? = some (k, b, u) → ∃ kd vd, (zipD ks vs)[i]? = some (.tup [kd, vd]) ∧ Rep F io kd (.ref b) ∧ Rep F io vd u
  | _, _, _, _, _, _, _, .nil, e => by simp at e
  | _, _, _, 0, _, _, _, .cons r _ _ q _, e => by
    simp at e
    obtain ⟨rfl, rfl, rfl⟩ := e
    exact ⟨_, _, rfl, r, q⟩
  | _, _, _, i + 1, _, _, _, .cons _ _ _ _ t, e => by
    obtain ⟨kd, vd, h1, h2⟩ := DPairs.zip_get (i := i) t (by simpa using e)
    exact ⟨kd, vd, by simpa [zipD] using h1, h2⟩
theorem DPairs.vals {F : Hp} {io : List Addr} : ∀ {ks vs : List D} {xs : List (NestedKey × Addr × V)}, DPairs F io ks vs xs → Reps F io vs (xs.map (·.2.2))
  | _, _, _, .nil => .nil
  | _, _, _, .cons _ _ _ q t => .cons q (DPairs.vals t)
section
variable {X : Cx} {w : Wi} {e : Expr} {f : SE} {apos cpos mpos p pos : Pos}
theorem di_items {elts : List Expr} {kk : Nat} {tpos : Pos} (h : DE X w e f) (hbase : attributeBase e "items" X.env (eval e X.env) = eval e X.env := by rfl) (hline : (apos.endLine == cpos.line) = true := by rfl) :
    DI X w (.Tuple elts kk tpos) (.Call (.Attribute e "items" apos) [] [] cpos) (sItems f) := PI.imp (pi_nitems h hbase hline) fun s H R ⟨x, r, m, Rl, q⟩ => by
  refine rd_bind Rl q fun d m1 v y H1 R1 p1 st1 q1 => ?_
  cases d with
  | dct ks vs =>
    cases p1 with
    | @dct pw' a ep ks vs xs hF dp =>
      refine ⟨pw', a, xs, ep, rfl, R1.sub _ _ hF, ?_⟩
      have hl := dp.zip_length
      have sv : Serves y.F y.io (ItN pw' a xs ep) (zipD ks vs) := by
        refine ⟨fun F' H i a b c => ⟨b _ _ (a _ _ hF), by omega⟩, fun F' H a b => ⟨b _ _ (a _ _ hF), by omega⟩, fun F' io' H i d v H' a b c e y => ?_⟩
        obtain ⟨T, k, b', u, h1, rfl, h2, rfl⟩ := y
        obtain ⟨kd, vd, g1, g2, g3⟩ := (dp.mono a b).zip_get h1
        rw [g1] at e
        cases e
        exact .new h2 (.cons g2 (.cons g3 .nil))
      exact Fin.here R1 q1 sv
  | _ => exact q1.elim
theorem de_sumV (hc : X.calm = true) (hg : Gl X "sum") (hm : X.mg "sum" = none) (h : DE X w e f) (hbase : attributeBase e "values" X.env (eval e X.env) = eval e X.env := by rfl) (hline : (apos.endLine == mpos.line) = true := by rfl)
    (hse : starEach [Expr.Call (.Attribute e "values" apos) [] [] mpos] X.env = [(false, eval (Expr.Call (.Attribute e "values" apos) [] [] mpos) X.env)] := by rfl) :
    DE X w (.Call (.Name "sum" p) [.Call (.Attribute e "values" apos) [] [] mpos] [] pos) (sSumV f) := PE.imp (pe_nsum hc hg hm h hbase hline hse) fun s H Q ⟨x, r, m, Rl, q⟩ => by
  refine rd_bind Rl q fun d m1 v y H1 R1 p1 st1 q1 => ?_
  cases d with
  | dct ks vs =>
    cases p1 with
    | @dct pw' a ep ks vs xs hF dp =>
      cases k : intsOf vs with
      | none =>
        dsimp only at q1
        rw [k] at q1
        exact q1.elim
      | some is =>
        dsimp only at q1
        rw [k] at q1
        exact ⟨pw', a, xs, ep, is, rfl, R1.sub _ _ hF, ints_reps dp.vals k, Fin.here R1 q1 (.int _)⟩
  | _ => exact q1.elim
end
end Dl
set_option autoImplicit true
/-! The data layer: how often a thing stands in a list, in a tuple that is written out. -/
namespace L2
open PySem PySem.Spec PyProof.Rows
theorem count_eqU {x : V} : ∀ {xs : List V} {us : List Value}, Vals xs us → xs.all flatV = true → us.countP (eqU x) = xs.countP fun y => eqV y x
  | _, _, .nil, _ => rfl
  | y :: xs, u :: us, .cons r t, f => by
    rw [List.all_cons, Bool.and_eq_true] at f
    rw [List.countP_cons, List.countP_cons, count_eqU t f.2, eqU_of r f.1]
/-- xs.count(y), flat things -/
def rCnt (K : PySem.W.Frag) : V → List V → Hp → VK → Prop := fun x ys H Q => ∃ p xs y, x = .ref p ∧ ys = [y] ∧ SqL K H p xs ∧ flatV y = true ∧ xs.all flatV = true ∧ Q (.int (xs.countP fun z => eqV z y : Nat)) H
theorem mt_cnt {X : Cx} : MtR X "list.count" (rCnt X.K) := by
  intro pins s σ H x ys v us Q I rx rys h
  obtain ⟨p, xs, y, rfl, rfl, hs, fy, fx, q⟩ := h
  cases rx
  obtain ⟨u, rfl, ru⟩ := rys.one
  obtain ⟨its, rv, ⟨⟨cls, dd, data, sl⟩, n, ho, hc, hdn, hd⟩, hlen⟩ := I.list hs
  dsimp only at hc hd
  subst hc hd
  refine call_meets PySem.F.slot_list_count ⟨_, ho, rfl⟩ PySem.F.entry_list_count (PySem.F.args_list_count_2 _ _)
    (SeqAt.list_countAt p its.toArray n dd sl u (eqU y)) ⟨ho, fun z hz => mem_eqAt ru fy rv fx z (by simpa using hz), .int (xs.countP fun z => eqV z y : Nat), H, I.tok _, ⟨s.toks, ?_⟩, q⟩
  rw [← count_eqU rv fx]
/-- (a, ..).count(e) -/
def tTC (ta : TA) (te : TE) : TE := fun σ H Q => ta σ H fun xs H1 => xs.length ≤ sizeLine ∧ te σ H1 fun y H2 => flatV y = true ∧ xs.all flatV = true ∧ Q (.int (xs.countP fun z => eqV z y : Nat)) H2
theorem pe_tupcount {X : Cx} {es : List Expr} {e : Expr} {ta : TA} {te : TE} {kk : Nat} {tpos apos cpos : Pos} (ha : PA X es ta) (he : PE X e te)
    (hbase : attributeBase (.Tuple es kk tpos) "count" X.env (eval (.Tuple es kk tpos) X.env) = eval (.Tuple es kk tpos) X.env := by rfl) (hline : (apos.endLine == cpos.line) = true := by rfl)
    (hs : starEach [e] X.env = [(false, eval e X.env)] := by rfl) (hb : backTo cpos [(false, eval e X.env)] = [(false, eval e X.env)] := by rfl) :
    PE X (.Call (.Attribute (.Tuple es kk tpos) "count" apos) [e] [] cpos) (tTC ta te) := by
  refine ⟨fun pins s σ H Q I h => ?_⟩
  refine wpAny_Call_method1_late hbase hline (by rw [hs]; exact hb) (wpAny_Tuple_spliced (thn (ha.run tpos pins s σ H _ I h) fun us s1 ⟨xs, H1, I1, r, z, q⟩ => ⟨by rw [← r.length]; exact z, ?_⟩))
  have ho : (s1.heap.push { cls := .type "tuple", data := .seq us.toArray }).get? s1.heap.objs.size = some { cls := .type "tuple", data := .seq us.toArray } := Heap.get?_push_size _ rfl
  have I2 : Inv X pins σ H1 { s1 with heap := s1.heap.push { cls := .type "tuple", data := .seq us.toArray } } := I1.kept (t' := s1.toks) fun b u e => Heap.get?_push_of_some _ e
  refine ⟨"tuple", "tuple.count", PySem.F.plainAttrs_tuple, PySem.F.slot_tuple_count, PySem.F.type_tuple_count, ⟨_, ho, rfl⟩, fun b e => ?_, ?_⟩
  · cases e
    exact ⟨_, ho, rfl⟩
  have I3 := I2.pinned (fp := [s1.heap.objs.size]) (fun b hb => by
    have e := List.mem_singleton.mp hb
    subst e
    exact I1.fpOk (Nat.le_refl _) (I1.hok.fresh (Nat.le_refl _))) (fun b hb => by
    have e := List.mem_singleton.mp hb
    subst e
    exact ⟨_, ho, fun v q => nomatch q⟩)
  refine Calls.callWith_builtin rfl (Calls.evalArgs_plain (Calls.spliced_cons (thn (he.run _ _ σ H1 _ I3 q) fun u s2 ⟨y, H2, I4, ry, fy, fx, q2⟩ => Calls.spliced_nil ?_)))
  have ho2 := (I4.pin (s1.heap.objs.size, _) (List.mem_append_right _ (List.mem_append_right _ (mem_pinsAt (List.mem_singleton.mpr rfl) ho)))).1
  refine call_meets PySem.F.slot_tuple_count ⟨_, ho2, rfl⟩ PySem.F.entry_tuple_count (PySem.F.args_tuple_count_2 _ _)
    (SeqAt.tuple_countAt s1.heap.objs.size us.toArray 0 none #[] u (eqU y)) ⟨ho2, fun z hz => mem_eqAt ry fy r fx z (by simpa using hz), .int (xs.countP fun z => eqV z y : Nat), H2, I4.unpinned.tok _, ⟨s2.toks, ?_⟩, q2⟩
  rw [← count_eqU r fx]
end L2
namespace Dl
open PySem PySem.Spec PyProof.Rows L2 TL
def cntD (l : List D) (d : D) : Int := ((l.countP fun y => eqD y d : Nat) : Int)
def fCnt : D → List D → Sto → R D
  | .lst l, [d], m => if flatD d = true ∧ l.all flatD = true then .ok (.int (cntD l d)) m else .bad
  | _, _, _ => .bad
/-- (a, ..).count(e) -/
def sTC (g : SL) (f : SE) : SE := fun r m => bindR (g r m) fun l m => if l.length ≤ LIM then bindR (f r m) fun d m => if flatD d = true ∧ l.all flatD = true then .ok (.int (cntD l d)) m else .bad else .bad
theorem flat_cnt {F : Hp} {io : List Addr} {d : D} {v : V} (r : Rep F io d v) (fd : flatD d = true) : ∀ {l : List D} {vs : List V}, Reps F io l vs → l.all flatD = true → vs.countP (fun z => eqV z v) = l.countP fun y => eqD y d
  | _, _, .nil, _ => rfl
  | d' :: l, v' :: vs, .cons r' t, f => by
    rw [List.all_cons, Bool.and_eq_true] at f
    rw [List.countP_cons, List.countP_cons, flat_cnt r fd t f.2, (flat_rep r' f.1).2 d fd v r]
section
variable {X : Cx} {w : Wi} {a o e : Expr} {es : List Expr} {apos cpos tpos : Pos} {fa fo fe : SE} {g : SL}
theorem cm_cnt (K : PySem.W.Frag) : CmM pw w fCnt (rCnt K) := by
  intro x e m s H Q d v ds vs R pd ps h
  unfold fCnt at h
  split at h
  · rename_i l d'
    obtain ⟨⟨f1, f2⟩, h⟩ := Fin.ite h
    obtain ⟨p, us, rfl, hp, q⟩ := pd.lst R
    obtain ⟨v', rfl, pv⟩ := ps.one
    have rv := pv.flat f1
    refine ⟨p, us, v', rfl, rfl, SqL.of hp, (flat_rep rv f1).1, (flat_reps rv f1 q f2).1, ?_⟩
    rw [flat_cnt rv f1 q f2]
    exact Fin.here R h (.int _)
  · exact h.elim
theorem de_cnt (ho : DK X w o fo) (ha : DK X w a fa) (hs : starEach [a] X.env = [(false, eval a X.env)] := by rfl) (hbase : attributeBase o "count" X.env (eval o X.env) = eval o X.env := by rfl)
    (hfew : ((backTo cpos (starEach [a] X.env)).all (fun x => !x.1) && (backToKw cpos (keywordEach [] X.env)).all (fun x => x.1.isSome)
      && decide ([a].length + ([] : List Keyword).length + (if ([] : List Keyword).isEmpty then 0 else 1) < 30)) = true := by rfl)
    (hline : (apos.endLine == cpos.line) = true := by rfl) (hpl : (backTo cpos (starEach [] X.env)).any (·.1) = false := by rfl) : DE X w (.Call (.Attribute o "count" apos) [a] [] cpos) (sMeth "list" fCnt fo (aCons fa aNil)) :=
  de_bm PySem.F.plainAttrs_list PySem.F.slot_list_count PySem.F.type_list_count mt_cnt (cm_cnt _) ho (dk_cons ha dk_nil hs) (by decide) hbase hfew hline hs hpl
theorem de_tupcnt {kk : Nat} (ha : DA X w es g) (he : DE X w e fe)
    (hbase : attributeBase (.Tuple es kk tpos) "count" X.env (eval (.Tuple es kk tpos) X.env) = eval (.Tuple es kk tpos) X.env := by rfl) (hline : (apos.endLine == cpos.line) = true := by rfl)
    (hs : starEach [e] X.env = [(false, eval e X.env)] := by rfl) (hb : backTo cpos [(false, eval e X.env)] = [(false, eval e X.env)] := by rfl) :
    DE X w (.Call (.Attribute (.Tuple es kk tpos) "count" apos) [e] [] cpos) (sTC g fe) := PE.imp (pe_tupcount ha he hbase hline hs hb) fun s H Q ⟨x, r, m, R, q⟩ => by
  refine rd_bind R q fun l m1 vs y H1 R1 p1 st1 q1 => ?_
  obtain ⟨hz, q1⟩ := Fin.ite q1
  refine ⟨by rw [← Reps.length p1, ← lim_eq]; exact hz, ?_⟩
  refine rd_bind R1 q1 fun d m2 v z H2 R2 p2 st2 q2 => ?_
  obtain ⟨⟨f1, f2⟩, q2⟩ := Fin.ite q2
  have p1' := Reps.mono st2.st.F st2.st.io p1
  refine ⟨(flat_rep p2 f1).1, (flat_reps p2 f1 p1' f2).1, ?_⟩
  rw [flat_cnt p2 f1 p1' f2]
  exact Fin.here R2 q2 (.int _)
end
end Dl
set_option autoImplicit true
/-! The data layer: a dict that a comprehension makes, its keys tuples. -/
namespace Dl
open PySem PySem.Spec PyProof.Rows L2 TL
section
variable {X : Cx}
theorem n_dictSet {pins : List (Addr × Obj)} {σ : L2.St} {H : Hp} {s : Shared} {a b : Addr} {xs : List (NestedKey × Addr × V)} {ep : Nat} {k : NestedKey} {v : V} {r : Value} {A : Around} {E : Value → Shared → Prop} {Q : Unit → Shared → Prop} (hu : A.units + 64 < cLine) (I : Inv X pins σ H s) (e : H a = some (dN (pwOf X) a xs ep)) (hk : KeysAt X.prog X.w H xs) (kb : KeyAt X.prog X.w H b k)
    (hl : xs.length < sizeLine) (rv : RelV v r) (h : ∀ s' ep', Inv X pins σ (upd H a (dN (pwOf X) a (stK xs k b v) ep')) s' → Q () s') : wpAny (model X.prog X.w) A (dictSet a (.ref b) r) Q E s := by
  obtain ⟨z, hd, ys, rel, dd⟩ := dn_at I.hok e hk
  have hl' : (stK xs k b v).length ≤ sizeLine := by have := stK_length xs k b v; omega
  have hr : (nestedKind X.prog X.w).room A := by
    show A.units + 8 < cLine
    omega
  refine wpAny_dictSet_heap (hsz := by rw [← Paired.length rel]; exact z) hr (kb _ I.hok) dd fun h' dd' hs => ?_
  obtain ⟨ep', ok⟩ := dn_ok (mg := X.mg) (H' := upd H a (dN (pwOf X) a (stK xs k b v) 0)) dd' (rel.put k b rv) hl' hd
  obtain ⟨q, _, _, hq, _⟩ := id dd'
  exact h _ ep' (d_write I (by rw [e]; exact True.intro) hs ⟨q, hq⟩ ok)
/-- one turn's wish: the pair is put -/
def tKv (pw : PWd) (D : Addr) (tk tv : TE) (Nx : Hp → Prop) : L2.St → Hp → Prop := fun σ2 H2 => tk σ2 H2 fun y H4 => tv σ2 H4 fun z H5 => ∃ b xs ep k, y = .ref b ∧ H5 D = some (dN pw D xs ep) ∧ KeysAt pw.1 pw.2.1 H5 xs ∧ KeyAt pw.1 pw.2.1 H5 b k ∧ xs.length < sizeLine ∧ ∀ ep', Nx (upd H5 D (dN pw D (stK xs k b z) ep'))
def tDcN (pw : PWd) (wi : TI) (g : TG) (tk tv : TE) (vs : List Nat) : TE := fun σ H Q => wi σ H fun J H1 => ∀ D, H1 D = none → ∃ W : Nat → Nat → Hp → Prop, (∃ m, W 0 m (upd H1 D (dN pw D [] 0))) ∧ ∀ i m H, W i m H →
  (J.stop i H ∧ Q (.ref D) H) ∨ (J.go i H ∧ ∃ Nx : Hp → Prop, (∀ H', Nx H' → ∃ m', m' < m ∧ W (i + 1) m' H') ∧ ∀ x H', J.yld i H x H' → g x (wipe σ vs) H' fun σ2 H2 => wipe σ2 vs = wipe σ vs ∧ tKv pw D tk tv Nx σ2 H2)
theorem dcn_core {pins : List (Addr × Obj)} {s : Shared} {σ : L2.St} {H : Hp} {Q : VK} {kx vx tg iter : Expr} {scope : Scope} {own : List (Str × Nat)} {pos pos' : Pos} {wi : TI} {g : TG} {tk tv : TE} {use : Option (Value → Sem Unit)} {Qf : Value → Shared → Prop} (I : Inv X pins σ H s) (hc : X.calm = true) (hu : X.A.units + 64 < cLine) (hN : X.N.Nodup) (hi : PI X tg iter wi) (ok : BlkOk X.N X.env.scope scope own)
    (hg : ∀ (s : Shared) (H : Hp) (C : Addr) (cl : List (Str × Addr)) (fp : List Addr), PG (X.blk s H scope (compEnvC scope cl C X.env) fp) tg g)
    (hk : ∀ (s : Shared) (H : Hp) (C : Addr) (cl : List (Str × Addr)) (fp : List Addr), PE (X.blk s H scope (compEnvC scope cl C X.env) fp) kx tk)
    (he : ∀ (s : Shared) (H : Hp) (C : Addr) (cl : List (Str × Addr)) (fp : List Addr), PE (X.blk s H scope (compEnvC scope cl C X.env) fp) vx tv) (hs : ∀ x, foldedSetIterable iter X.env x = pure x)
    (h : tDcN (pwOf X) wi g tk tv (own.map (·.2)) σ H Q)
    (hRR : ∀ D C s' m H', Inv X pins σ H' s' → Q (.ref D) H' → s'.heap.Ns C m → FpOk X pins H' C → compPost (model X.prog X.w) X.A X.xe use Qf (.ref D) C (.ok .next) s') :
    wpAny (model X.prog X.w) X.A (comprehension (.DictComp kx vx [⟨tg, iter, [], 0⟩] scope pos) scope X.env pos' newDict false (eval iter X.env) use) Qf X.xe s := by
  have hfree : ∀ y ∈ scope.names, y.2 = .free → ∃ c, X.env.cells.lookup y.1 = some c := fun y hy e => (ok.free y hy e).elim (fun k => I.ok.has _ (.inl k)) (fun k => I.ok.has _ (.inr k))
  refine wpAny_comprehension_free (use := use) rfl hs (closure_ok hfree) ok.kind (fun y hy e => by rw [ok.uniq y hy, e])
    (thn (hi.run pins s σ H _ I h) fun xv s1 hx => thn hx fun itv s2 ⟨it, fp, tn, J, H2, e, I2, T, st2, f2, q⟩ => ?_)
  subst e
  refine wpAny_newObj_type (newEnv_comp ?_)
  obtain ⟨W, ⟨m0, w0⟩, turn⟩ := q s2.heap.objs.size (I2.hok.fresh (Nat.le_refl _))
  generalize hD : s2.heap.objs.size = D at *
  generalize hs3 : ({ s2 with heap := s2.heap.push { cls := .type "dict", data := .dict #[] } } : Shared) = s3
  have h3 : s3.heap = s2.heap.push { cls := .type "dict", data := .dict #[] } := by rw [← hs3]
  have I3 : Inv X pins σ (upd H2 D (dN (pwOf X) D [] 0)) s3 := by
    rw [← hs3, ← hD]
    exact I2.laid (t' := s2.toks) (fun b o e => Heap.get?_push_of_some _ e) (Nat.le_refl _) (dn_new I2.big)
  have st3 : tn 0 s3.heap := T.keep _ _ _ st2 fun b _ o e => by rw [h3]; exact Heap.get?_push_of_some _ e
  have f3 : ∀ b ∈ fp, FpOk X pins (upd H2 D (dN (pwOf X) D [] 0)) b ∧ b < s3.heap.objs.size := fun b hb => by
    obtain ⟨o, e, _⟩ := T.obj _ _ st2 b hb
    have lt := Heap.lt_size e
    refine ⟨⟨?_, (f2 b hb).2⟩, by rw [h3, Heap.size_push]; exact Nat.lt_succ_of_lt lt⟩
    rw [upd_ne (by rw [← hD]; exact Nat.ne_of_lt lt)]
    exact (f2 b hb).1
  have I4 := block_start I3 ok hN f3
  have nfp : ∀ b ∈ fp, upd H2 D (dN (pwOf X) D [] 0) b = none := fun b hb => (f3 b hb).1.1
  have pg := hg s3 (upd H2 D (dN (pwOf X) D [] 0)) s3.heap.objs.size (cellsFrom (s3.heap.objs.size + 1) scope.names (cloFrom X.env.cells scope.names [])) fp
  have pk := hk s3 (upd H2 D (dN (pwOf X) D [] 0)) s3.heap.objs.size (cellsFrom (s3.heap.objs.size + 1) scope.names (cloFrom X.env.cells scope.names [])) fp
  have pe := he s3 (upd H2 D (dN (pwOf X) D [] 0)) s3.heap.objs.size (cellsFrom (s3.heap.objs.size + 1) scope.names (cloFrom X.env.cells scope.names [])) fp
  show codeAny _ _ (.compStart (.DictComp kx vx [⟨tg, iter, [], 0⟩] scope pos) 0 (.ref it) (.ref D) (compEnvC scope (cellsFrom (s3.heap.objs.size + 1) scope.names (cloFrom X.env.cells scope.names [])) s3.heap.objs.size X.env)) (compPost (model X.prog X.w) X.A X.xe use Qf (.ref D) s3.heap.objs.size) { s3 with heap := pushCells (s3.heap.push { cls := .type "dict", data := .dict #[] }) scope.names }
  generalize hce : compEnvC scope (cellsFrom (s3.heap.objs.size + 1) scope.names (cloFrom X.env.cells scope.names [])) s3.heap.objs.size X.env = ce at I4 pg pk pe ⊢
  have cL : ce.locals = s3.heap.objs.size := by subst hce; rfl
  generalize hH3 : upd H2 D (dN (pwOf X) D [] 0) = H3 at I3 I4 pg pk pe w0 nfp f3
  generalize hs4 : ({ s3 with heap := pushCells (s3.heap.push { cls := .type "dict", data := .dict #[] }) scope.names } : Shared) = s4 at I4 ⊢
  have st4 : tn 0 s4.heap := T.keep _ _ _ st3 fun b _ o e => by rw [← hs4]; exact pushCells_keeps _ _ _ _ (Heap.get?_push_of_some _ e)
  have stat : ∀ {σ' : L2.St} {H' : Hp} {s' : Shared}, Inv (X.blk s3 H3 scope ce fp) [] σ' H' s' → (∀ b ∈ fp, H' b = none) → ∀ b ∈ fp, FpOk (X.blk s3 H3 scope ce fp) [] H' b := fun {σ' H' s'} J' hn b hb =>
    ⟨hn b hb, (J'.ok.exf b hb).1, J'.ok.exfs b hb, .inl hb, fun x c e => (J'.ok.exf b hb).2 x c e, fun p hp => by cases (show p ∈ ([] : List (Addr × Obj)) from hp)⟩
  have loop : codeAny (model X.prog X.w) X.A (.compLoop (.DictComp kx vx [⟨tg, iter, [], 0⟩] scope pos) 0 (.ref it) (.ref D) ce) (compPost (model X.prog X.w) X.A X.xe use Qf (.ref D) s3.heap.objs.size) s4 := by
    refine compLoop_anyD (fun n s' => ∃ i H', Inv (X.blk s3 H3 scope ce fp) [] (wipe σ (own.map (·.2))) H' s' ∧ tn i s'.heap ∧ (∀ b ∈ fp, H' b = none) ∧ W i n H') ?_ m0 ⟨0, H3, I4, st4, nfp, w0⟩
    rintro n s5 ⟨i, H5, I5, st5, n5, w5⟩
    rcases turn i n H5 w5 with ⟨stop, qq⟩ | ⟨go, Nx, hNx, step⟩
    · refine thnF (T.done (X.blk s3 H3 scope ce fp) rfl rfl rfl hc i [] s5 _ H5 (fun _ _ => False) I5 (stat I5 n5) st5 stop) fun r s6 ⟨hr, I6⟩ => ?_
      subst hr
      have I7 : Inv X pins σ H5 s6 := I3.call' (ch := fp) I6.os I6.base I6.hok I6.bare fun b hb => ⟨(f3 b hb).1.2.2.2.1, (f3 b hb).1.2.1, (f3 b hb).1.2.2.2.2.1, (f3 b hb).1.2.2.2.2.2⟩
      have nC : H5 s3.heap.objs.size = none := by rw [← cL]; exact I6.free
      obtain ⟨m, hn, _⟩ := I6.loc
      exact hRR D s3.heap.objs.size s6 m H5 I7 qq (by rw [← cL]; exact hn) (I3.fpOk (Nat.le_refl _) nC)
    · refine thnF (T.item (X.blk s3 H3 scope ce fp) rfl rfl rfl hc i [] s5 _ H5 (fun _ _ => False) I5 (stat I5 n5) st5 go) fun r s6 ⟨u, hr, h6⟩ => ?_
      subst hr
      refine thnF h6 fun _ s7 ⟨x, H7, I7, r7, y7, st7, n7⟩ => ?_
      refine thnF (pg.run _ s7 _ H7 x u _ (I7.pinned (stat I7 n7) (T.obj _ _ st7)) r7 (step x H7 y7)) fun _ s8 ⟨σ8, H8, I8, hw8, q8⟩ => ?_
      refine thnF ((pts_nil (X := X.blk s3 H3 scope ce fp)).run _ s8 σ8 H8 (fun b H' => b = true ∧ H' = H8) I8 ⟨rfl, rfl⟩) fun b s9 ⟨H9, I9, eb, es⟩ => ?_
      subst eb es
      rw [if_pos rfl]
      refine thnF (pk.run _ s9 σ8 _ _ I9 q8) fun z s10 ⟨yk, H10, I10, r10, q10⟩ => ?_
      refine thnF (pe.run _ s10 σ8 H10 _ I10 q10) fun z2 s11 ⟨yv, H11, I11, r11, b, xs, ep, k, ek, hD11, hks, hkb, hz11, nx⟩ => ?_
      subst ek
      cases (show z = Value.ref b from r10)
      refine n_dictSet (X := X.blk s3 H3 scope ce fp) hu I11 hD11 hks hkb hz11 r11 fun s12 ep' I12 => ?_
      obtain ⟨m', hm, w'⟩ := hNx _ (nx ep')
      have pin' : ∀ c ∈ fp, ∀ o, s7.heap.get? c = some o → s12.heap.get? c = some o ∧ upd H11 D (dN (pwOf X) D (stK xs k b yv) ep') c = none := fun c hc' o e =>
        let z := I12.pin (c, o) (List.mem_append_right _ (List.mem_append_right _ (mem_pinsAt hc' e)))
        ⟨z.1, z.2.1⟩
      refine ⟨m', hm, i + 1, _, (I12.unpinned (pins := [])).weak (by rw [← hw8, wipe_length]) (fun j v e => ?_), T.keep _ _ _ st7 fun c hc' o e => (pin' c hc' o e).1, fun c hc' => ?_, w'⟩
      · rw [← hw8] at e
        exact (wipe_some e).1
      · obtain ⟨o, e, _⟩ := T.obj _ _ st7 c hc'
        exact (pin' c hc' o e).2
  exact codeAny_compStart_dict loop (T.self X.A 0 _ _ _ st4 loop)
theorem pe_dcn {kx vx tg iter : Expr} {scope : Scope} {own : List (Str × Nat)} {pos : Pos} {wi : TI} {g : TG} {tk tv : TE} (hc : X.calm = true) (hu : X.A.units + 64 < cLine) (hN : X.N.Nodup) (hi : PI X tg iter wi) (ok : BlkOk X.N X.env.scope scope own)
    (hg : ∀ (s : Shared) (H : Hp) (C : Addr) (cl : List (Str × Addr)) (fp : List Addr), PG (X.blk s H scope (compEnvC scope cl C X.env) fp) tg g)
    (hk : ∀ (s : Shared) (H : Hp) (C : Addr) (cl : List (Str × Addr)) (fp : List Addr), PE (X.blk s H scope (compEnvC scope cl C X.env) fp) kx tk)
    (he : ∀ (s : Shared) (H : Hp) (C : Addr) (cl : List (Str × Addr)) (fp : List Addr), PE (X.blk s H scope (compEnvC scope cl C X.env) fp) vx tv) (hs : ∀ x, foldedSetIterable iter X.env x = pure x := by intro _; rfl) :
    PE X (.DictComp kx vx [⟨tg, iter, [], 0⟩] scope pos) (tDcN (pwOf X) wi g tk tv (own.map (·.2))) := by
  refine ⟨fun pins s σ H Q I h => ?_⟩
  rw [arm_eval_DictComp]
  refine dcn_core I hc hu hN hi ok hg hk he hs h fun D C s' m H' I' q hn ⟨f0, f1, f2, f3, f4, f5⟩ => ⟨m, hn, fun h'' sb => ?_⟩
  exact ⟨.ref D, H', I'.turned (t' := s'.toks) (fun b o hb e => (sb.2 b hb).trans e) f0 f1 f3 f4 f5, rfl, q⟩
/-- y = {..}, y a local -/
theorem ps_setDcn {i : Nat} {y : Str} {py : Pos} {kx vx tg iter : Expr} {scope : Scope} {own : List (Str × Nat)} {pos spos : Pos} {wi : TI} {g : TG} {tk tv : TE} (hy : X.N[i]? = some y) (hyl : X.env.scope.names.lookup y = some .local)
    (hsw : swapsWith (.DictComp kx vx [⟨tg, iter, [], 0⟩] scope pos) (some (.Name y py)) spos.line X.env = pure true) (hc : X.calm = true) (hu : X.A.units + 64 < cLine) (hN : X.N.Nodup) (hi : PI X tg iter wi) (ok : BlkOk X.N X.env.scope scope own)
    (hg : ∀ (s : Shared) (H : Hp) (C : Addr) (cl : List (Str × Addr)) (fp : List Addr), PG (X.blk s H scope (compEnvC scope cl C X.env) fp) tg g)
    (hk : ∀ (s : Shared) (H : Hp) (C : Addr) (cl : List (Str × Addr)) (fp : List Addr), PE (X.blk s H scope (compEnvC scope cl C X.env) fp) kx tk)
    (he : ∀ (s : Shared) (H : Hp) (C : Addr) (cl : List (Str × Addr)) (fp : List Addr), PE (X.blk s H scope (compEnvC scope cl C X.env) fp) vx tv) (hs : ∀ x, foldedSetIterable iter X.env x = pure x := by intro _; rfl) :
    PS X (.Assign [.Name y py] (.DictComp kx vx [⟨tg, iter, [], 0⟩] scope pos) spos) (tAsg (tDcN (pwOf X) wi g tk tv (own.map (·.2))) (L2.gName i)) := by
  refine ⟨fun pins s σ H D I h => ?_⟩
  rw [exec_Assign_Name_used _ _ _ _ hsw]
  refine wpAny_bind (wpAny_standAt (wpAny_bind ?_))
  show wpAny _ X.A (do let _ ← comprehension (.DictComp kx vx [⟨tg, iter, [], 0⟩] scope pos) scope X.env (firstIterPos [⟨tg, iter, [], 0⟩] pos) newDict false (eval iter X.env) (some (assign (.Name y py) X.env))) _ _ s
  have h : tDcN (pwOf X) wi g tk tv (own.map (·.2)) σ H (fun x H1 => L2.gName i x σ H1 D.nx) := h
  refine wpAny_bind (thn (dcn_core (Qf := fun _ s' => SP X pins D .next s') I hc hu hN hi ok hg hk he hs h fun L C s' m H' I' q hn ⟨f0, f1, f2, f3, f4, f5⟩ => ?_) fun _ s' hq => wpAny_pure (wpAny_pure hq))
  show wpAny _ _ (assign (.Name y py) X.env (.ref L)) _ _ _
  refine wpAny_assign_Name (store_ok2 (v := V.ref L) I' hN hy (.inl hyl) rfl (fun s2 I2 ⟨a, sb, ha⟩ => ?_) (.inr hyl))
  refine ⟨m, hn.sameBut sb (ha.elim (fun z => by rw [z]; exact f1) fun z e => f4 y a z e.symm), fun h3 sb3 => ?_⟩
  exact ⟨_, H', I2.turned (t' := s2.toks) (fun b o hb e => (sb3.2 b hb).trans e) f0 f1 f3 f4 f5, q⟩
theorem sw_trueD {kx vx : Expr} {gs : List Comprehension} {scope : Scope} {pos py : Pos} {y : Str} {l : Nat} {env : PySem.Env} (hk : env.scope.kind = .function) (hy : env.scope.names.lookup y = some .local) (hl : (py.line == pos.line) = true)
    (ha : (scope.names.any fun (n, k) => n == y && (k == .local || k == .cell)) = false) : swapsWith (.DictComp kx vx gs scope pos) (some (.Name y py)) l env = pure true := by
  have ky : env.kindOf y = some .local := hy
  have hb : env.blockKind = .function := by unfold Env.blockKind; rw [hk]; rfl
  unfold swapsWith
  simp only [hb, ky, ha, Expr.pos, hl]
  rfl
end
end Dl
set_option autoImplicit true
/-! The data layer: a dict that a comprehension makes, over values as trees. -/
namespace Dl
open PySem PySem.Spec PyProof.Rows L2 TL
def dcL (g : Gm) (fk fv : SE) (r0 : Env) : List D → List D × List D → Sto → R (List D × List D)
  | [], acc, m => .ok acc m
  | d :: l, acc, m => match g d r0 with
    | none => .bad
    | some r' => bindN (fk r' m) fun kd m => bindN (fv r' m) fun vd m => match keyT kd with
      | some k => if acc.1.length < LIM then dcL g fk fv r0 l (dPut acc.1 acc.2 kd k vd) m else .bad
      | none => .bad
def sDc (vs : List Nat) (i : SL) (g : Gm) (fk fv : SE) : SE := fun r m => bindR (i r m) fun ds m => if vs.all (bare r) = true then bindN (dcL g fk fv (wipeE r vs) ds ([], []) m) fun p m => .ok (.dct p.1 p.2) m else .bad
/-- the dict in the making -/
structure MkD (D : Addr) (y : Sx pw) (H : Hp) (p : List Dl.D × List Dl.D) (xs : List (NestedKey × Addr × V)) (ep : Nat) : Prop where
  at' : H D = some (dN pw D xs ep)
  rep : DPairs y.F y.io p.1 p.2 xs
  nA : D ∉ y.A1 ++ y.A2
  nF : y.F D = none
theorem MkD.stay {D : Addr} {y z : Sx pw} {H H' : Hp} {p : List Dl.D × List Dl.D} {xs : List (NestedKey × Addr × V)} {ep : Nat} (h : MkD D y H p xs ep) (st : StE y H z H') : MkD D z H' p xs ep := by
  have n2 : D ∉ y.A2 := fun q => h.nA (List.mem_append_right _ q)
  refine ⟨st.st.keep D _ h.at' n2, h.rep.mono st.st.F st.st.io, fun q => ?_, ?_⟩
  · rcases List.mem_append.mp q with q | q
    · rw [st.a1] at q
      exact h.nA (List.mem_append_left _ q)
    · rcases st.st.newA D q with q | q
      · exact n2 q
      · rw [h.at'] at q; cases q
  · cases e : z.F D with
    | none => rfl
    | some o =>
      rcases st.st.newF D h.nF (by rw [e]; exact fun z => by cases z) with q | q
      · rw [h.at'] at q; cases q
      · exact absurd q n2
/-- what is nobody's is written -/
theorem nobody_put {D : Addr} {y : Sx pw} {H : Hp} {o' : HO} {r : Env} {m : Sto} {s : L2.St} (nA : D ∉ y.A1 ++ y.A2) (nF : y.F D = none) (R : Rel y r m s H) :
    Rel y r m s (upd H D o') ∧ ∀ {x : Sx pw} {H1 : Hp}, H1 D = none → StE x H1 y H → StE x H1 y (upd H D o') := by
  have ne1 : ∀ b ∈ y.A1, b ≠ D := fun b hb e => nA (List.mem_append_left _ (e ▸ hb))
  have ne2 : ∀ b ∈ y.A2, b ≠ D := fun b hb e => nA (List.mem_append_right _ (e ▸ hb))
  refine ⟨⟨fun b o e => ?_, R.vars.mono (.refl _) (.refl _) fun b hb o e => by rw [upd_ne (ne1 b hb)]; exact e, R.sto.mono (.refl _) (.refl _) fun b hb o e => by rw [upd_ne (ne2 b hb)]; exact e, R.nd, R.nF⟩, fun {x H1} hD st => ⟨⟨st.st.F, st.st.io, fun b o e n => ?_, fun b e => ?_, st.st.newF, st.st.newA⟩, st.a1⟩⟩
  · rw [upd_ne (ne_of_none e nF)]
    exact R.sub _ _ e
  · rw [upd_ne (ne_of_none e hD)]
    exact st.st.keep b o e n
  · by_cases hb : b = D
    · subst hb; exact hD
    · rw [upd_ne hb] at e
      exact st.st.there b e
section
variable {w : Wi} {g : Gm} {fk fv : SE} {i : SL} {ws vs : List Nat}
theorem dc_rd (hw : ∀ i ∈ ws, i ∈ vs) (s : L2.St) (H : Hp) (Q : VK) (q : rd (PV (pw := pw)) w (sDc vs i g fk fv) s H Q) : tDcN pw (rd (PIt (pw := pw)) w i) (rdG pw ws g) (rd (PV (pw := pw)) w.no fk) (rd (PV (pw := pw)) w.no fv) vs s H Q := by
  obtain ⟨x, r, m, R, q⟩ := q
  refine rd_bind R q fun ds m1 J y1 H1 R1 sv st1 q1 => ?_
  obtain ⟨hb, q1⟩ := Fin.ite q1
  intro D hD
  have hDF : y1.F D = none := by
    cases e : y1.F D with
    | none => rfl
    | some o => rw [R1.sub _ _ e] at hD; cases hD
  have hDA : D ∉ y1.A1 ++ y1.A2 := fun z => R1.there D z hD
  have hR1 : Rel y1 (wipeE r vs) m1 (wipe s vs) H1 := ⟨R1.sub, R1.vars.wipe vs hb, R1.sto, R1.nd, R1.nF⟩
  let Go : Nat → Hp → Prop := fun i H => ∃ y m p xs ep, Rel y (wipeE r vs) m (wipe s vs) H ∧ MkD D y H p xs ep ∧ StE y1 H1 y H ∧ Fin PV w y1 r s H1 Q (bindN (dcL g fk fv (wipeE r vs) (ds.drop i) p m) fun p m => .ok (.dct p.1 p.2) m)
  refine ⟨fun i n H => n = ds.length - i ∧ i ≤ ds.length ∧ Go i H, ⟨ds.length, by simp, Nat.zero_le _, y1, m1, ([], []), [], 0, (nobody_put hDA hDF hR1).1, ⟨upd_same, .nil, hDA, hDF⟩, (nobody_put hDA hDF hR1).2 hD .refl, by simpa using q1⟩, ?_⟩
  rintro i n H ⟨rfl, hi, y, m, p, xs, ep, R, mk, st, q⟩
  by_cases hlt : i < ds.length
  · refine .inr ⟨sv.go y.F H i st.st.F R.sub hlt, Go (i + 1), fun H' h' => ⟨ds.length - (i + 1), by omega, rfl, hlt, h'⟩, fun v H' hy => ?_⟩
    obtain ⟨z, Rz, pz, stz⟩ := R.yl (sv.yld y.F y.io H i ds[i] v H' st.st.F st.st.io R.sub (List.getElem?_eq_getElem hlt) hy)
    have mkz := mk.stay stz
    have hd : ds.drop i = ds[i] :: ds.drop (i + 1) := List.drop_eq_getElem_cons hlt
    rw [hd] at q
    unfold dcL at q
    refine ⟨z, wipeE r vs, m, ds[i], Rz, pz, ?_⟩
    cases eg : g ds[i] (wipeE r vs) with
    | none => rw [eg] at q; exact q.elim
    | some r' =>
      rw [eg] at q
      intro s' z' R' e1 e2 e3 e4 o'
      refine ⟨(o'.wipe hw).trans (wipe_wipe vs), z', r', m, R', ?_⟩
      have st' : Stp y1.A2 y1 H1 z' H' := Stp.trans (Stp.trans st.st stz.st) ⟨by rw [e1]; exact .refl _, by rw [e2]; exact .refl _, fun _ _ h _ => h, fun _ h => h, fun b h1 h2 => by rw [e1] at h2; exact absurd h1 h2, fun b h => .inl (by rw [← e3]; exact h)⟩
      have mk' : MkD D z' H' p xs ep := ⟨mkz.at', by rw [e1, e2]; exact mkz.rep, fun hm => mkz.nA (by
        rcases List.mem_append.mp hm with hm | hm
        · exact List.mem_append_left _ (e4 _ hm)
        · rw [e3] at hm; exact List.mem_append_right _ hm), by rw [e1]; exact mkz.nF⟩
      have back : ∀ {u2 : Sx pw} {H5 : Hp} {m5 : Sto} {r5 : Env} {s5 : L2.St} {p5 : List Dl.D × List Dl.D} {xs5 : List (NestedKey × Addr × V)} {ep5 : Nat}, Rel u2 r5 m5 s5 H5 → Stp y1.A2 y1 H1 u2 H5 → MkD D u2 H5 p5 xs5 ep5 → Rel (u2.w1 (y1.A1)) (wipeE r vs) m5 (wipe s vs) H5 ∧ StE y1 H1 (u2.w1 (y1.A1)) H5 ∧ MkD D (u2.w1 (y1.A1)) H5 p5 xs5 ep5 := fun {u2 H5 m5 r5 s5 p5 xs5 ep5} R5 st5 mk5 => by
        obtain ⟨R6, st6⟩ := hR1.back st5 R5
        refine ⟨R6, st6, ⟨mk5.at', mk5.rep, fun hm => ?_, mk5.nF⟩⟩
        rcases List.mem_append.mp hm with hm | hm
        · exact R1.there D (List.mem_append_left _ hm) hD
        · exact mk5.nA (List.mem_append_right _ hm)
      dsimp only at q
      cases ek : fk r' m with
      | exc c v m => rw [ek] at q; exact q.elim
      | bad => rw [ek] at q; exact q.elim
      | ok kd m2 =>
        rw [ek] at q
        intro vk u H4 R4 p4 st4
        have mk4 := mk'.stay st4
        have st4' := Stp.trans st' st4.st
        refine ⟨u, r', m2, R4, ?_⟩
        have q : Fin PV w y1 r s H1 Q (bindN (bindN (fv r' m2) fun vd m => match keyT kd with
          | some k => if p.1.length < LIM then dcL g fk fv (wipeE r vs) (ds.drop (i + 1)) (dPut p.1 p.2 kd k vd) m else .bad
          | none => .bad) fun p m => .ok (.dct p.1 p.2) m) := q
        cases ev : fv r' m2 with
        | exc c v m => rw [ev] at q; exact q.elim
        | bad => rw [ev] at q; exact q.elim
        | ok vd m3 =>
          rw [ev] at q
          intro vv o H5 R5 p5 st5
          have mk5 := mk4.stay st5
          have st5' := Stp.trans st4' st5.st
          have q : Fin PV w y1 r s H1 Q (bindN (match keyT kd with
            | some k => if p.1.length < LIM then dcL g fk fv (wipeE r vs) (ds.drop (i + 1)) (dPut p.1 p.2 kd k vd) m3 else .bad
            | none => .bad) fun p m => .ok (.dct p.1 p.2) m) := q
          cases hk : keyT kd with
          | none => rw [hk] at q; exact q.elim
          | some k =>
            rw [hk] at q
            dsimp only at q
            by_cases hz : p.1.length < LIM
            · rw [if_pos hz] at q
              obtain ⟨b, rfl, rb, kb, e6, z6⟩ := (Pk.of (H := H5) (p4.mono st5.st.F st5.st.io)).key R5 hk
              refine ⟨b, xs, ep, k, rfl, mk5.at', keysAt_of R5.sub mk5.rep, kb, by rw [← mk5.rep.lengths.1, ← lim_eq]; exact hz, fun ep' => ?_⟩
              obtain ⟨R6, st6, mk6⟩ := back R5 st5' mk5
              obtain ⟨R7, st7⟩ := nobody_put (o' := dN pw D (stK xs k b vv) ep') mk6.nA mk6.nF R6
              exact ⟨_, m3, _, _, ep', R7, ⟨upd_same, mk6.rep.put rb e6 z6 p5, mk6.nA, mk6.nF⟩, st7 hD st6, q⟩
            · rw [if_neg hz] at q
              exact q.elim
  · have e : i = ds.length := by omega
    subst e
    refine .inl ⟨sv.stop y.F H st.st.F R.sub, ?_⟩
    rw [List.drop_length] at q
    have q : Fin PV w y1 r s H1 Q (.ok (.dct p.1 p.2) m) := q
    have hs : Sub y.F (upd y.F D (dN pw D xs ep)) := fun b o e => by rw [upd_ne (ne_of_none e mk.nF)]; exact e
    refine q (.ref D) (y.wF (upd y.F D (dN pw D xs ep))) H ⟨fun b o e => ?_, ?_, R.sto.mono hs (.refl _) fun b hb o e => e, R.nd, fun b hb => ?_⟩ (.dct upd_same (mk.rep.mono hs (.refl _))) ⟨⟨st.st.F.trans hs, st.st.io, st.st.keep, st.st.there, fun b h1 h2 => ?_, st.st.newA⟩, st.a1⟩
    · have e : upd y.F D (dN pw D xs ep) b = some o := e
      by_cases hbD : b = D
      · subst hbD
        rw [upd_same] at e
        cases e
        exact mk.at'
      · rw [upd_ne hbD] at e
        exact R.sub _ _ e
    · show Vars pw _ _ _ _ _ y.A1
      rw [st.a1]
      exact R1.vars.mono (st.st.F.trans hs) st.st.io fun b hb o e => st.st.keep b o e fun z => (List.nodup_append.mp R1.nd).2.2 b hb b z rfl
    · show upd y.F D (dN pw D xs ep) b = none
      rw [upd_ne (fun e => mk.nA (by rw [← e]; exact hb))]
      exact R.nF b hb
    · have h2 : upd y.F D (dN pw D xs ep) b ≠ none := h2
      by_cases hbD : b = D
      · subst hbD; exact .inl hD
      · rw [upd_ne hbD] at h2
        exact st.st.newF b h1 h2
end
theorem de_dc {X : Cx} {w : Wi} {kx vx tg iter : Expr} {scope : Scope} {pos : Pos} {i : SL} {g : Gm} {fk fv : SE} {ws : List Nat} (own : List (Str × Nat)) (hc : X.calm = true) (hu : X.A.units + 64 < cLine) (hN : X.N.Nodup) (hi : DI X w tg iter i) (ok : BlkOk X.N X.env.scope scope own)
    (hg : ∀ (s : Shared) (H : Hp) (C : Addr) (cl : List (Str × Addr)) (fp : List Addr), DG (X.blk s H scope (compEnvC scope cl C X.env) fp) tg ws g)
    (hk : ∀ (s : Shared) (H : Hp) (C : Addr) (cl : List (Str × Addr)) (fp : List Addr), DE (X.blk s H scope (compEnvC scope cl C X.env) fp) w.no kx fk)
    (he : ∀ (s : Shared) (H : Hp) (C : Addr) (cl : List (Str × Addr)) (fp : List Addr), DE (X.blk s H scope (compEnvC scope cl C X.env) fp) w.no vx fv) (hw : ∀ i ∈ ws, i ∈ own.map (·.2) := by decide) (hs : ∀ x, foldedSetIterable iter X.env x = pure x := by intro _; rfl) :
    DE X w (.DictComp kx vx [⟨tg, iter, [], 0⟩] scope pos) (sDc (own.map (·.2)) i g fk fv) :=
  PE.imp (pe_dcn hc hu hN hi ok hg hk he hs) fun s H Q q => dc_rd hw s H Q q
/-- y = {..}, y a local -/
theorem ds_setDc {X : Cx} {w : Wi} {k : Nat} {y : Str} {py : Pos} {kx vx tg iter : Expr} {scope : Scope} {pos spos : Pos} {i : SL} {g : Gm} {fk fv : SE} {ws : List Nat} (own : List (Str × Nat)) (hc : X.calm = true) (hu : X.A.units + 64 < cLine) (hN : X.N.Nodup) (hy : X.N[k]? = some y) (hyl : X.env.scope.names.lookup y = some .local)
    (hsw : swapsWith (.DictComp kx vx [⟨tg, iter, [], 0⟩] scope pos) (some (.Name y py)) spos.line X.env = pure true) (hi : DI X w tg iter i) (ok : BlkOk X.N X.env.scope scope own)
    (hg : ∀ (s : Shared) (H : Hp) (C : Addr) (cl : List (Str × Addr)) (fp : List Addr), DG (X.blk s H scope (compEnvC scope cl C X.env) fp) tg ws g)
    (hk : ∀ (s : Shared) (H : Hp) (C : Addr) (cl : List (Str × Addr)) (fp : List Addr), DE (X.blk s H scope (compEnvC scope cl C X.env) fp) w.no kx fk)
    (he : ∀ (s : Shared) (H : Hp) (C : Addr) (cl : List (Str × Addr)) (fp : List Addr), DE (X.blk s H scope (compEnvC scope cl C X.env) fp) w.no vx fv) (hw : ∀ i ∈ ws, i ∈ own.map (·.2) := by decide) (hs : ∀ x, foldedSetIterable iter X.env x = pure x := by intro _; rfl) :
    DS X w (.Assign [.Name y py] (.DictComp kx vx [⟨tg, iter, [], 0⟩] scope pos) spos) (sAsg (gN k) (sDc (own.map (·.2)) i g fk fv)) :=
  PS.imp (ps_setDcn hy hyl hsw hc hu hN hi ok hg hk he hs) fun E s H ⟨x, r, m, R, q⟩ => by
    have h : rd (PV (pw := pwOf X)) w (sDc (own.map (·.2)) i g fk fv) s H fun v H1 => L2.gName k v s H1 E.nx := by
      refine rd_bindS R q fun d m1 v y H1 R1 p1 st1 q1 => ?_
      obtain ⟨z, R', e1, e2, e3, e4⟩ := R1.putV k p1
      exact FinS.shift (.same e1 e2 e3 fun b hb => .inl (e4 b hb)) q1 _ z H1 R' .refl
    exact dc_rd hw s H _ h
end Dl
set_option autoImplicit true
/-! The data layer: one of two lists that are written out. -/
namespace Dl
open PySem PySem.Spec PyProof.Rows L2 TL
def cIf (t : SB) (fa fb : SCe) : SCe := fun r m => bindR (t r m) fun b m => if b = true then fa r m else fb r m
section
variable {X : Cx} {w : Wi} {a b c : Expr} {pos : Pos} {tc : SB} {fa fb : SCe}
theorem rdC_bindB {pw : PWd} {x : Sx pw} {r : Env} {m : Sto} {s : L2.St} {H : Hp} {Q : VK} {t : SB} {g : Bool → Sto → R Cell} {K : Bool → Hp → Prop} (R : Rel x r m s H) (h : FinC w x r s H Q (bindR (t r m) g))
    (k : ∀ (b : Bool) (m' : Sto) (y : Sx pw) (H' : Hp), Rel y r m' s H' → FinC w y r s H' Q (g b m') → K b H') : rd (PB (pw := pw)) w t s H K := by
  refine ⟨x, r, m, R, ?_⟩
  cases e : t r m with
  | ok b m' =>
    rw [e] at h
    intro b' y H' R' p st
    cases p
    exact k b m' y H' R' (FinC.shift st h)
  | exc c v m' =>
    rw [e] at h
    exact fun cls d y H' R' p st => h cls d y H' R' p st
  | bad =>
    rw [e] at h
    exact h
theorem dc_if (hc : DT X w c tc) (ha : DC X w a fa) (hb : DC X w b fb) : DC X w (.IfExp c a b pos) (cIf tc fa fb) :=
  PE.imp (pe_ifExp hc ha hb) fun s H Q ⟨x, r, m, R, q⟩ => by
    refine rdC_bindB R q fun k m1 y H1 R1 q1 => ?_
    cases k with
    | false =>
      rw [if_neg Bool.false_ne_true] at q1 ⊢
      exact ⟨y, r, m1, R1, q1⟩
    | true =>
      rw [if_pos rfl] at q1 ⊢
      exact ⟨y, r, m1, R1, q1⟩
end
end Dl
set_option autoImplicit true
/-! The data layer: a, b = e1, e2 where a name is a cell: the pair is made, then taken apart. -/
namespace Dl
open PySem PySem.Spec PyProof.Rows L2 TL
section
variable {w : Wi} {X : Cx} {a b c : Expr} {pos : Pos}
theorem ds_parC {i j : Nat} {n k : Str} {f h : SCe} {px py pt : Pos} {kt k2 : Nat} {pt2 : Pos} (hc : X.calm = true) (hN : X.N.Nodup) (hi : X.N[i]? = some n) (hj : X.N[j]? = some k) (hx : Loc X.env.scope n) (hy : Loc X.env.scope k) (ha : DC X w a f) (hb : DC X w b h)
    (fx : X.fn n = true ∨ X.env.scope.names.lookup n = some .local := by first | exact .inl rfl | exact .inr rfl) (fy : X.fn k = true ∨ X.env.scope.names.lookup k = some .local := by first | exact .inl rfl | exact .inr rfl)
    (hw : swappedStores [.Tuple [.Name n px, .Name k py] kt pt] (.Tuple [a, b] k2 pt2) X.env = pure none := by rfl)
    (hs : swapsWithSole [.Tuple [.Name n px, .Name k py] kt pt] (.Tuple [a, b] k2 pt2) pos.line X.env = pure false := by rfl) (h1 : starEach [a, b] X.env = (false, eval a X.env) :: starEach [b] X.env := by rfl) (h2 : starEach [b] X.env = [(false, eval b X.env)] := by rfl)
    (hn : (assignEach [.Name n px, .Name k py] X.env).length = 2 := by rfl) (hst : (assignEach [.Name n px, .Name k py] X.env).findIdx? (·.1) = none := by rfl) :
    DS X w (.Assign [.Tuple [.Name n px, .Name k py] kt pt] (.Tuple [a, b] k2 pt2) pos) (sPar i j f h) :=
  PS.imp (ps_asg (pe_tup (pa_cons ha (pa_cons hb pa_nil h2) h1)) (pg_tup hc (pgs_cons (pg_name hN hi hx fx) (pgs_cons (pg_name hN hj hy fy) pgs_nil)) hn hst) hs hw) fun E s H ⟨x, r, m, R, q⟩ => by
    refine rdC_bindW .refl R q fun c m1 v y H1 A R1 hc hA st st0 q1 => ?_
    refine rdC_bindW st0 R1 q1 fun d m2 u z H2 B R2 hd hB st2 st02 q2 => ?_
    refine ⟨by rw [sizeLine_eq]; exact Nat.le_of_ble_eq_true rfl, fun p hp => ⟨p, [v, u], rfl, SqT.of upd_same, rfl, ?_⟩⟩
    have Rn := R2.new (o := .tup [v, u]) hp
    have stn := StE.new (o := .tup [v, u]) R2 hp
    have hd' := hd.stay stn
    obtain ⟨t, R3, st3, wt⟩ := Rn.store (.inl (st02.trans stn)) ((hc.stay st2).stay stn) i
    obtain ⟨o, R4, st4, _⟩ := R3.store (.inr st3) (wt _ _ _ hd' (apart hc.rep hB)) j
    exact ⟨v, [u], rfl, u, [], rfl, rfl, q2 _ o _ R4 st4⟩
end
end Dl
set_option autoImplicit true
/-! The data layer: lambdas, made. -/
namespace Dl
open PySem PySem.Spec PyProof.Rows L2 TL LamX

theorem lamO_ok {P : Program} {w : World} {H : Hp} {h : Heap} {L : LamD} {c f : Addr} {dV doc pm ctv : Value} (e : h.get? f = some (PySem.W.kdv_obj "<lambda>" L.qual L.params (.expr L.body) L.scope L.clo dV doc pm c ctv)) : ObjOk P w H h f (LamO L c dV f) :=
  ⟨⟨doc, pm, ctv, e⟩, ⟨_, e⟩, fun g1 g2 ⟨doc, pm, ctv, e⟩ st => ⟨doc, pm, ctv, st _ e⟩⟩
/-- the table at p: each code object that it tells bears the name q -/
def TabH (H : Hp) (p : Addr) (ps : Array Value) (q : Str) : Prop := H p = some (.tbl ps) ∧ TriplesOk ps.toList ∧ ∀ (pos : Pos) (cv : Value), codeAmong pos ps.toList = some cv → ∃ c, cv = .ref c ∧ H c = some (CodeO c q)
section
variable {X : Cx} {pins : List (Addr × Obj)} {σ : L2.St} {H : Hp} {s : Shared}
/-- the end of a lambda's making -/
theorem lam_tail {p c : Addr} {ps : Array Value} {params : Arguments} {body : Expr} {scope : Scope} {pos : Pos} {ln : Nat} {dV : Value} {E : Value → Shared → Prop} {Q : Value → Shared → Prop} (I : Inv X pins σ H s) (TB : TabB X.base X.mg c p) (hcode : X.env.code = .ref c)
    (hT : TabH H p ps (X.env.qual ++ "<lambda>")) (hfree : ∀ y ∈ scope.names, y.2 = .free → ∃ c, X.env.cells.lookup y.1 = some c)
    (h : ∀ (f c' : Addr) (more : Array Value) (H1 : Hp) (s' : Shared), Inv X pins σ (upd H1 f (LamO ⟨params, body, scope, X.env.qual ++ "<lambda>", cloFrom X.env.cells scope.names []⟩ c' dV f)) s' → (∀ b o, b ≠ p → H b = some o → H1 b = some o) → (∀ b, H b = none → b ≠ c' → H1 b = none) → H1 f = none → H f = none → f ≠ c' →
      (H c' = none ∨ ∃ pos, codeAmong pos ps.toList = some (.ref c')) → H1 c' = some (CodeO c' (X.env.qual ++ "<lambda>")) → H1 p = some (.tbl (ps ++ more)) → TriplesOk (ps ++ more).toList → (∀ (pos : Pos) (cv : Value), codeAmong pos (ps ++ more).toList = some cv → codeAmong pos ps.toList = some cv ∨ cv = .ref c') → Q (.ref f) s') :
    wpAny (model X.prog X.w) X.A (makeTail "<lambda>" (X.env.qual ++ "<lambda>") params (.expr body) scope X.env dV .none none pos ln) Q E s := by
  obtain ⟨hP, ht, ha⟩ := hT
  have bP : s.heap.BuiltinsAt X.mg p := TB.bm.keeps I.bk
  have hP' : s.heap.get? p = some { cls := .none, data := .fields ps } := I.hok p _ hP
  have fin : ∀ {h1 : Heap} {t1 : Nat} {H1 : Hp} {c' : Addr} {doc pm ctv : Value} {tk : Nat} {Z : Prop}, Inv X pins σ H1 { s with heap := h1, toks := t1 } → (∀ f, Inv X pins σ (upd H1 f (LamO ⟨params, body, scope, X.env.qual ++ "<lambda>", cloFrom X.env.cells scope.names []⟩ c' dV f)) { s with heap := h1.push (PySem.W.kdv_obj "<lambda>" (X.env.qual ++ "<lambda>") params (.expr body) scope (cloFrom X.env.cells scope.names []) dV doc pm c' ctv), toks := tk } → f = h1.objs.size → Z) → Z := by
    intro h1 t1 H1 c' doc pm ctv tk Z I1 hz
    refine hz h1.objs.size ?_ rfl
    exact (I1.laid (t' := tk) (a := h1.objs.size) (fun b o e => Heap.get?_push_of_some _ e) (Nat.le_refl _) (lamO_ok (Heap.get?_push_size _ rfl)))
  cases hc : codeAmong pos ps.toList with
  | none =>
    refine PySem.W.kdv_makeTail (mg := X.mg) (c := c) (P := p) (ps := ps) (closure_ok hfree) I.ok.glob (I.mod.glob.keeps I.bk) hcode (TB.code.keeps I.bk) hP' ht hc TB.gP bP fun c' ctv doc h' tk hx hge hlt hrec htb => ?_
    obtain ⟨c2, oc, vs, t, e2, hoc, hd, hv⟩ := hrec
    cases e2
    have nC : H c' = none := I.hok.fresh hge
    have I1 := inv_table (t' := tk) (more := #[rawInt pos.line, rawInt pos.col, .ref c']) (h' := h') I hP
      (fun b o hb e => hx b o hb e) htb hge ⟨oc, vs, t, hoc, hd, hv⟩
    have hsz : s.heap.objs.size ≤ h'.objs.size := Nat.le_trans hge (Nat.le_of_lt hlt)
    have n1 : h'.objs.size ≠ c' := Nat.ne_of_gt hlt
    have n2 : h'.objs.size ≠ p := Nat.ne_of_gt (Nat.lt_of_lt_of_le (Heap.lt_size hP') hsz)
    have eL : (ps ++ #[rawInt pos.line, rawInt pos.col, .ref c']).toList = ps.toList ++ [rawInt pos.line, rawInt pos.col, .ref c'] := by simp
    refine fin (c' := c') (tk := tk) (doc := doc) (pm := (X.mg "__name__").getD .none) (ctv := ctv) (Z := _) I1 fun f I2 ef => ?_
    subst ef
    refine h h'.objs.size c' #[rawInt pos.line, rawInt pos.col, .ref c'] _ _ I2 (fun b o hb e => ?_) (fun b e hb => ?_) ?_ (I.hok.fresh hsz) n1 (.inl nC) upd_same ?_ ?_ fun p' cv hcv => ?_
    · rw [upd_ne (ne_of_none e nC), upd_ne hb]
      exact e
    · have hbp : b ≠ p := fun z => by rw [z, hP] at e; cases e
      rw [upd_ne hb, upd_ne hbp]
      exact e
    · rw [upd_ne n1, upd_ne n2]
      exact I.hok.fresh hsz
    · rw [upd_ne (ne_of_none hP nC), upd_same]
    · rw [eL]
      exact PySem.TriplesOk_snoc _ _ _ _ ht
    · rw [eL] at hcv
      exact among_app _ ht hcv
  | some cv =>
    obtain ⟨c', e, hco⟩ := ha pos cv hc
    subst e
    refine PySem.W.kdv_makeTailHit (mg := X.mg) (c := c) (P := p) (ps := ps) (closure_ok hfree) I.ok.glob (I.mod.glob.keeps I.bk) hcode (TB.code.keeps I.bk) hP' ht hc bP fun ctv doc h' tk hx hsz => ?_
    have I1 : Inv X pins σ H { s with heap := h', toks := tk } := I.kept hx
    refine fin (c' := c') (tk := tk) (doc := doc) (pm := (X.mg "__name__").getD .none) (ctv := ctv) (Z := _) I1 fun f I2 ef => ?_
    subst ef
    have nf : H h'.objs.size = none := I.hok.fresh hsz
    have e0 : ps ++ #[] = ps := by simp
    refine h h'.objs.size c' #[] H _ I2 (fun b o _ e => e) (fun b e _ => e) nf nf (Ne.symm (ne_of_none hco nf)) (.inr ⟨pos, hc⟩) hco (by rw [e0]; exact hP) (by rw [e0]; exact ht) fun p' cv hcv => ?_
    rw [e0] at hcv
    exact .inl hcv
/-- what is known of the lambdas of the def that is walked -/
class LamC where
  L : Nat → LamD
  P : Addr
  q : Str
/-- a lambda's making: the def's table of code objects is the objects' second -/
def sLamN [LamC] (jt k : Nat) : SE := fun (r : Env) (m : Sto) => match (m[jt]? : Option MObj) with
  | some (.tab p q) => if p = LamC.P ∧ q = LamC.q then .ok (.fn k (LamC.L k)) m else .bad
  | _ => .bad
def sLam [LamC] (k : Nat) : SE := sLamN 1 k
theorem lam_core {x : Sx (pwOf X)} {r : Env} {m : Sto} {p c : Addr} {params : Arguments} {body : Expr} {scope : Scope} {pos : Pos} {jt ln k : Nat} {dV : Value} {E : Value → Shared → Prop} {Q : Value → Shared → Prop} (I : Inv X pins σ H s) (R : Rel x r m σ H) (TB : TabB X.base X.mg c p) (hcode : X.env.code = .ref c)
    (hm : m[jt]? = some (.tab p (X.env.qual ++ "<lambda>"))) (hfree : ∀ y ∈ scope.names, y.2 = .free → ∃ c, X.env.cells.lookup y.1 = some c) (hdV : (params.defaults.isEmpty = true ∧ dV = .none) ∨ (params.defaults.isEmpty = false ∧ ∃ t, dV = .ref t ∧ x.F t = some (.tup [.int 0])))
    (h : ∀ (f : Addr) (y : Sx (pwOf X)) (H' : Hp) (s' : Shared), Inv X pins σ H' s' → Rel y r m σ H' → Rep y.F y.io (.fn k ⟨params, body, scope, X.env.qual ++ "<lambda>", cloFrom X.env.cells scope.names []⟩) (.ref f) → StE x H y H' → Q (.ref f) s') :
    wpAny (model X.prog X.w) X.A (makeTail "<lambda>" (X.env.qual ++ "<lambda>") params (.expr body) scope X.env dV .none none pos ln) Q E s := by
  obtain ⟨a, A0, A', ha, hp, ho, hw⟩ := Stos.at R.sto hm
  cases ho with
  | @tab _ _ ps hP ht hcd =>
  have pA2 : p ∈ x.A2 := (hp.mem_iff).mpr (by simp)
  have pF : x.F p = none := R.nF p (List.mem_append_right _ pA2)
  refine lam_tail I TB hcode ⟨hP, ht, fun ps' cv e => ?_⟩ hfree fun f c' more H1 s' I' k1 k2 nf1 nf nfc hc0 hc1 hP1 ht1 hcs => ?_
  · obtain ⟨c0, e1, e2⟩ := hcd ps' cv e
    exact ⟨c0, e1, R.sub _ _ e2⟩
  · have cF : x.F c' = none ∨ x.F c' = some (CodeO c' (X.env.qual ++ "<lambda>")) := by
      rcases hc0 with z | ⟨ps', z⟩
      · left
        cases e : x.F c' with
        | none => rfl
        | some o => rw [R.sub _ _ e] at z; cases z
      · obtain ⟨c0, e1, e2⟩ := hcd ps' _ z
        cases e1
        exact .inr e2
    have fF : x.F f = none := by
      cases e : x.F f with
      | none => rfl
      | some o => rw [R.sub _ _ e] at nf; cases nf
    have cP : c' ≠ p := fun z => by
      rcases hc0 with y | ⟨ps', y⟩
      · rw [z, hP] at y; cases y
      · obtain ⟨c0, e1, e2⟩ := hcd ps' _ y
        cases e1
        rw [z, pF] at e2
        cases e2
    obtain ⟨LL, hLL⟩ : ∃ LL, LL = LamO ⟨params, body, scope, X.env.qual ++ "<lambda>", cloFrom X.env.cells scope.names []⟩ c' dV f := ⟨_, rfl⟩
    rw [← hLL] at I'
    have sF : Sub x.F (upd (upd x.F c' (CodeO c' (X.env.qual ++ "<lambda>"))) f LL) := fun b o e => by
      rw [upd_ne (ne_of_none e fF)]
      by_cases hb : b = c'
      · subst hb
        rcases cF with z | z
        · rw [z] at e; cases e
        · rw [upd_same, ← z, e]
      · rw [upd_ne hb]
        exact e
    have keep : ∀ b o, b ≠ p → H b = some o → upd H1 f LL b = some o := fun b o hb e => by
      rw [upd_ne (ne_of_none e nf)]
      exact k1 b o hb e
    have at_c : upd H1 f LL c' = some (CodeO c' (X.env.qual ++ "<lambda>")) := by rw [upd_ne (Ne.symm nfc)]; exact hc1
    have npf : p ≠ f := ne_of_none hP nf
    have d1 : ∀ b ∈ x.A1, b ≠ p := fun b hb z => (List.nodup_append.mp R.nd).2.2 b hb b (z ▸ pA2) rfl
    have hA' : ∀ b ∈ A', b ≠ p := fun b hb z => by
      have nd2 := (List.nodup_append.mp R.nd).2.1
      have := (hp.nodup_iff).mp nd2
      rw [z] at hb
      exact (List.nodup_cons.mp this).1 (by simpa using hb)
    obtain ⟨A2', hp2, hst⟩ := hw (F' := upd (upd x.F c' (CodeO c' (X.env.qual ++ "<lambda>"))) f LL) (io' := x.io) (H' := upd H1 f LL) sF (.refl _) (fun b hb o e => keep b o (hA' b hb) e) (o' := .tab p (X.env.qual ++ "<lambda>")) (A1 := [p]) (.tab (ps := ps ++ more) (by rw [upd_ne npf]; exact hP1) ht1 fun ps' cv e => by
      rcases hcs ps' cv e with z | z
      · obtain ⟨c0, e1, e2⟩ := hcd ps' cv z
        exact ⟨c0, e1, sF _ _ e2⟩
      · refine ⟨c', z, ?_⟩
        rw [upd_ne (Ne.symm nfc), upd_same])
    have hset : m.set jt (.tab p (X.env.qual ++ "<lambda>")) = m := by
      apply List.ext_getElem?
      intro i
      by_cases hi : i = jt
      · subst hi
        rw [List.getElem?_set_self (by exact (List.getElem?_eq_some_iff.mp hm).1), hm]
      · rw [List.getElem?_set_ne (Ne.symm hi)]
    rw [hset] at hst
    have hperm : A2'.Perm x.A2 := hp2.trans hp.symm
    have hmem : ∀ b, b ∈ A2' ↔ b ∈ x.A2 := fun b => hperm.mem_iff
    refine h f ⟨upd (upd x.F c' (CodeO c' (X.env.qual ++ "<lambda>"))) f LL, x.io, x.A1, A2'⟩ _ s' I' ⟨fun b o e => ?_, R.vars.mono sF (.refl _) fun b hb o e => keep b o (d1 b hb) e, hst, ?_, fun b hb => ?_⟩ ?_ ⟨⟨sF, .refl _, fun b o e hb => keep b o (fun z => hb (z ▸ pA2)) e, fun b e => ?_, fun b e1 e2 => ?_, fun b hb => .inl ((hmem b).mp hb)⟩, rfl⟩
    · have e : upd (upd x.F c' (CodeO c' (X.env.qual ++ "<lambda>"))) f LL b = some o := e
      by_cases hb : b = f
      · subst hb
        rw [upd_same] at e ⊢
        exact e
      · have e : upd (upd x.F c' (CodeO c' (X.env.qual ++ "<lambda>"))) f LL b = some o := e
        rw [upd_ne hb] at e
        by_cases hb2 : b = c'
        · subst hb2
          rw [upd_same] at e
          rw [at_c, e]
        · rw [upd_ne hb2] at e
          exact keep b o (fun z => by rw [z, pF] at e; cases e) (R.sub _ _ e)
    · exact (List.Perm.append_left x.A1 hperm).nodup_iff.mpr R.nd
    · have hb : b ∈ x.A1 ++ A2' := hb
      have hb' : b ∈ x.A1 ++ x.A2 := by
        rcases List.mem_append.mp hb with z | z
        · exact List.mem_append_left _ z
        · exact List.mem_append_right _ ((hmem b).mp z)
      have n1 : b ≠ f := fun z => R.there b hb' (by rw [z]; exact nf)
      have n2 : b ≠ c' := fun z => by
        rcases hc0 with y | ⟨ps', y⟩
        · exact R.there b hb' (by rw [z]; exact y)
        · obtain ⟨c0, e1, e2⟩ := hcd ps' _ y
          cases e1
          rw [← z, R.nF b hb'] at e2
          cases e2
      show upd (upd x.F c' (CodeO c' (X.env.qual ++ "<lambda>"))) f LL b = none
      rw [upd_ne n1, upd_ne n2]
      exact R.nF b hb'
    · refine .fn (c := c') (dV := dV) (by show upd (upd x.F c' (CodeO c' (X.env.qual ++ "<lambda>"))) f LL f = _; rw [upd_same, hLL]) (by show upd (upd x.F c' (CodeO c' (X.env.qual ++ "<lambda>"))) f LL c' = _; rw [upd_ne (Ne.symm nfc), upd_same]) ?_
      rcases hdV with z | ⟨z0, t, z1, z2⟩
      · exact .inl z
      · exact .inr ⟨z0, t, z1, sF _ _ z2⟩
    · cases e2 : H b with
      | none => rfl
      | some o =>
        exfalso
        by_cases hb : b = p
        · subst hb
          rw [upd_ne npf, hP1] at e
          cases e
        · rw [keep b o hb e2] at e
          cases e
    · by_cases hb : b = f
      · rw [hb]; exact .inl nf
      · by_cases hb2 : b = c'
        · rw [hb2] at e1 ⊢
          rcases cF with z | z
          · rcases hc0 with y | ⟨ps', y⟩
            · exact .inl y
            · obtain ⟨c0, e3, e4⟩ := hcd ps' _ y
              cases e3
              rw [z] at e4
              cases e4
          · rw [z] at e1; cases e1
        · exfalso
          apply e2
          show upd (upd x.F c' (CodeO c' (X.env.qual ++ "<lambda>"))) f LL b = none
          rw [upd_ne hb, upd_ne hb2]
          exact e1
variable {w : Wi} [C : LamC] {k : Nat} {p c : Addr} {params : Arguments} {body : Expr} {scope : Scope} {pos : Pos}
theorem lam_sem {jt : Nat} {s : L2.St} {H : Hp} {Q : VK} (h : rd (PV (pw := pwOf X)) w (sLamN jt k) s H Q) : ∃ x r m, Rel x r m s H ∧ m[jt]? = some (.tab C.P C.q) ∧ Fin (PV (pw := pwOf X)) w x r s H Q (.ok (.fn k (C.L k)) m) := by
  obtain ⟨x, r, m, R, q⟩ := h
  unfold sLamN at q
  split at q
  · rename_i p q' e
    by_cases hc : p = LamC.P ∧ q' = LamC.q
    · rw [if_pos hc] at q
      rw [hc.1, hc.2] at e
      exact ⟨x, r, m, R, e, q⟩
    · rw [if_neg hc] at q
      exact q.elim
  · exact q.elim
/-- lambda: body -/
theorem de_lam0N {jt : Nat} (TB : TabB X.base X.mg c p) (hcode : X.env.code = .ref c) (hP : C.P = p) (hq : C.q = X.env.qual ++ "<lambda>") (hL : C.L k = ⟨params, body, scope, X.env.qual ++ "<lambda>", cloFrom X.env.cells scope.names []⟩) (hfree0 : ∀ y ∈ scope.names, y.2 = .free → X.env.scope.names.lookup y.1 = some .cell ∨ X.env.scope.names.lookup y.1 = some .free)
    (hdef : defaultsOf params X.env = ([], [])) (hd0 : params.defaults.isEmpty = true) : DE X w (.Lambda params body scope pos) (sLamN jt k) := ⟨fun pins s σ H Q I h => by
  obtain ⟨x, r, m, R, hm, q⟩ := lam_sem h
  have hfree : ∀ y ∈ scope.names, y.2 = .free → ∃ c, X.env.cells.lookup y.1 = some c := fun y hy e => (hfree0 y hy e).elim (fun z => I.ok.has _ (.inl z)) fun z => I.ok.has _ (.inr z)
  rw [hP, hq] at hm
  rw [hL] at q
  refine PySem.W.kla_eval hdef ?_
  rw [makeFunction_eq]
  simp only [List.zip_nil_right, List.filterMap_nil, List.isEmpty_nil, if_true, pure_bind]
  exact lam_core (k := k) I R TB hcode hm hfree (.inl ⟨hd0, rfl⟩) fun f y H' s' I' R' rp st => ⟨.ref f, H', I', rfl, q _ y H' R' rp st⟩⟩
/-- lambda a=0: body -/
theorem de_lam1N {jt j : Nat} {cp : Pos} (TB : TabB X.base X.mg c p) (hcode : X.env.code = .ref c) (hP : C.P = p) (hq : C.q = X.env.qual ++ "<lambda>") (hL : C.L k = ⟨params, body, scope, X.env.qual ++ "<lambda>", cloFrom X.env.cells scope.names []⟩) (hfree0 : ∀ y ∈ scope.names, y.2 = .free → X.env.scope.names.lookup y.1 = some .cell ∨ X.env.scope.names.lookup y.1 = some .free)
    (hd : params.defaults = [.Constant (.int 0) j cp]) (hk0 : params.kw_defaults = []) : DE X w (.Lambda params body scope pos) (sLamN jt k) := ⟨fun pins s σ H Q I h => by
  obtain ⟨x, r, m, R, hm, q⟩ := lam_sem h
  have hfree : ∀ y ∈ scope.names, y.2 = .free → ∃ c, X.env.cells.lookup y.1 = some c := fun y hy e => (hfree0 y hy e).elim (fun z => I.ok.has _ (.inl z)) fun z => I.ok.has _ (.inr z)
  rw [hP, hq] at hm
  rw [hL] at q
  refine PySem.W.kdv_lam (by rw [hd]; rfl) hk0 ?_
  rw [hd]
  refine PySem.W.kdv_all1 (thn ((pe_int (X := X) (i := 0) (j := j) (pos := cp)).run pins s σ H (fun v H1 => v = .int 0 ∧ H1 = H) I ⟨rfl, rfl⟩) fun u s1 ⟨v, H1, I1, r1, ev, eH⟩ => ?_)
  subst ev
  rw [eH] at I1
  refine PySem.W.kdv_all0 ?_
  rw [makeFunction_eq]
  simp only [List.zip_nil_right, List.filterMap_nil, List.isEmpty_nil, if_true, pure_bind, List.isEmpty_cons, Bool.false_eq_true, if_false]
  refine wpAny_bind (wpAny_newTextTuple ?_)
  have hn : H s1.heap.objs.size = none := I1.hok.fresh (Nat.le_refl _)
  have I2 : Inv X pins σ (upd H s1.heap.objs.size (.tup [.int 0])) { s1 with heap := s1.heap.push { cls := .type "tuple", data := .seq [u].toArray } } :=
    I1.laid (t' := s1.toks) (fun b o e => Heap.get?_push_of_some _ e) (Nat.le_refl _) (show ObjOk X.prog X.w _ _ _ (.tup [.int 0]) from ⟨by rw [sizeLine_eq]; exact Nat.le_of_ble_eq_true rfl, [u], .cons r1 .nil, ⟨_, Heap.get?_push_size _ rfl, rfl, _, rfl⟩⟩)
  have R2 := R.new (o := .tup [.int 0]) hn
  have st2 := StE.new (o := .tup [.int 0]) R hn
  exact lam_core (k := k) I2 R2 TB hcode hm hfree (.inr ⟨by rw [hd]; rfl, _, rfl, upd_same⟩) fun f y H' s' I' R' rp st => ⟨.ref f, H', I', rfl, q _ y H' R' rp (st2.trans st)⟩⟩
theorem de_lam0 (TB : TabB X.base X.mg c p) (hcode : X.env.code = .ref c) (hP : C.P = p) (hq : C.q = X.env.qual ++ "<lambda>") (hL : C.L k = ⟨params, body, scope, X.env.qual ++ "<lambda>", cloFrom X.env.cells scope.names []⟩) (hfree0 : ∀ y ∈ scope.names, y.2 = .free → X.env.scope.names.lookup y.1 = some .cell ∨ X.env.scope.names.lookup y.1 = some .free)
    (hdef : defaultsOf params X.env = ([], [])) (hd0 : params.defaults.isEmpty = true) : DE X w (.Lambda params body scope pos) (sLam k) := de_lam0N (jt := 1) TB hcode hP hq hL hfree0 hdef hd0
theorem de_lam1 {j : Nat} {cp : Pos} (TB : TabB X.base X.mg c p) (hcode : X.env.code = .ref c) (hP : C.P = p) (hq : C.q = X.env.qual ++ "<lambda>") (hL : C.L k = ⟨params, body, scope, X.env.qual ++ "<lambda>", cloFrom X.env.cells scope.names []⟩) (hfree0 : ∀ y ∈ scope.names, y.2 = .free → X.env.scope.names.lookup y.1 = some .cell ∨ X.env.scope.names.lookup y.1 = some .free)
    (hd : params.defaults = [.Constant (.int 0) j cp]) (hk0 : params.kw_defaults = []) : DE X w (.Lambda params body scope pos) (sLam k) := de_lam1N (jt := 1) TB hcode hP hq hL hfree0 hd hk0
end
end Dl
set_option autoImplicit true
/-! The data layer: lambdas, called by the def that they are handed to. -/
namespace Dl
open PySem PySem.Spec PyProof.Rows L2 TL LamX

/-- how a lambda of the text binds what it gets -/
structure LamB (L : LamD) (bs : List Str) : Prop where
  b0 : L.params.defaults.isEmpty = true → bs = [] ∧ ∀ (doc pm cv ctv : Value), bindArgs (PySem.W.kdv_fn "<lambda>" L.qual L.params (.expr L.body) L.scope L.clo .none doc pm cv ctv) ⟨[], []⟩ = pure []
  b1 : L.params.defaults.isEmpty = false → ∃ a, bs = [a] ∧ ∀ (t : Addr) (doc pm cv ctv : Value), ∃ k : Option (Array Value) → Sem (List (Str × Value)), bindArgs (PySem.W.kdv_fn "<lambda>" L.qual L.params (.expr L.body) L.scope L.clo (.ref t) doc pm cv ctv) ⟨[], []⟩ = seqItems? (.ref t) >>= k ∧ ∀ u, k (some #[u]) = pure [(a, u)]
/-- the lambda as a def in a def -/
abbrev LamD.nf (L : LamD) (c' : Addr) : NdefX.NF := ⟨"<lambda>", L.qual, L.params, [], L.scope, L.clo, c'⟩
/-- the object at f is the k-th lambda -/
structure IsLam (H : Hp) (L : LamD) (f c' : Addr) : Prop where
  c : H c' = some (CodeO c' L.qual)
  o : ∃ dV, H f = some (LamO L c' dV f) ∧ ((L.params.defaults.isEmpty = true ∧ dV = .none) ∨ (L.params.defaults.isEmpty = false ∧ ∃ t, dV = .ref t ∧ H t = some (.tup [.int 0])))
section
variable {P : Program} {w : World} {K : PySem.W.Frag} {mg : Str → Option Value} {base : Heap} {N bs fr : List Str} {A : Around} {outer : List PySem.Env} {s : Shared} {H : Hp}
/-- what a lambda binds -/
theorem IsLam.binds {pins : List (Addr × Obj)} {σ : L2.St} {X : Cx} {L : LamD} {f c' : Addr} (hl : IsLam H L f c') (I : Inv X pins σ H s) (hB : LamB L bs) :
    ∃ dV doc pm ctv us, s.heap.get? f = some (PySem.W.kdv_obj "<lambda>" L.qual L.params (.expr L.body) L.scope L.clo dV doc pm c' ctv) ∧ Vals (bs.map fun _ => V.int 0) us ∧
      BindsTo s (PySem.W.kdv_fn "<lambda>" L.qual L.params (.expr L.body) L.scope L.clo dV doc pm (.ref c') ctv) ⟨[], []⟩ (bs.zip us) := by
  obtain ⟨dV, hf, hd⟩ := hl.o
  obtain ⟨⟨doc, pm, ctv, of1⟩, _, _⟩ := (show ObjOk X.prog X.w H s.heap f (LamO L c' dV f) from I.hok f _ hf)
  rcases hd with ⟨h1, rfl⟩ | ⟨h1, t, rfl, h3⟩
  · obtain ⟨rfl, e2⟩ := hB.b0 h1
    exact ⟨_, doc, pm, ctv, [], of1, .nil, BindsTo.of_eq (e2 doc pm (.ref c') ctv)⟩
  · obtain ⟨a, rfl, e2⟩ := hB.b1 h1
    obtain ⟨_, its, rv, o, g1, g2, n, g3⟩ := (show ObjOk X.prog X.w H s.heap t (.tup [.int 0]) from I.hok t _ h3)
    obtain ⟨u, rfl, _⟩ := vals1 rv
    obtain ⟨kk, k1, k2⟩ := e2 t doc pm (.ref c') ctv
    exact ⟨_, doc, pm, ctv, [u], of1, rv, BindsTo.of_defaults rfl g1 g3 k1 (k2 u)⟩
/-- the lambda's body, run -/
theorem lam_run {L : LamD} {f c' : Addr} {dV doc pm ctv : Value} {us : List Value} {k : Nat} {ws : List (Option V)} {Q : VK} {E : XK} {tb : TE} (of1 : s.heap.get? f = some (PySem.W.kdv_obj "<lambda>" L.qual L.params (.expr L.body) L.scope L.clo dV doc pm c' ctv))
    (hcode : s.heap.CodeRec (.ref c') L.qual) (rv : Vals (bs.map fun _ => V.int 0) us) (hb : BindsTo s (PySem.W.kdv_fn "<lambda>" L.qual L.params (.expr L.body) L.scope L.clo dV doc pm (.ref c') ctv) ⟨[], []⟩ (bs.zip us))
    (S : NdefX.NScope N bs fr L.scope) (C : NdefX.CellsAt L.clo fr ws s.heap H) (e0 : Env0 P w K mg base A outer s H) (hr : Room (k + 1) A)
    (hbody : Room k (A.deeper (NdefX.envF (L.nf c') f s.heap.objs.size)) → PE (NdefX.ncx (L2.CX P w) P w K mg base N (L.nf c') f A outer s H E) L.body tb) (ht : tb (NdefX.startF N (bs.map fun _ => V.int 0) ws) H Q) :
    codeAny (model P w) A (.call (.ref f) ⟨[], []⟩) (CR (L2.CX P w) outer P w H s Q E) s := by
  refine PySem.W.kla_callFunE hr.depth of1 rfl S.co S.gen rfl hcode (hb _ _ _ _ ?_)
  have hnc : ∀ y ∈ L.scope.names, y.2 ≠ .cell := S.nocell
  refine wpAny_newFunctionEnv hnc (fun y hy => S.par _ (List.of_mem_zip hy).1) (fun h1 hns hsb => ⟨(e0.mod.nolimit.keeps fun b o e => (e0.bs b o e).1).fresh _ hsb, ?_⟩) S.kind
  have kp : ∀ b o, s.heap.get? b = some o → h1.get? b = some o := fun b o e => hsb.extBut b o (Nat.ne_of_lt (Heap.lt_size e)) (Heap.get?_push_of_some _ e)
  have J := NdefX.inv_startN (CX := L2.CX P w) (E := E) (f := f) (F := L.nf c') (tk := s.toks + (bs.zip us).length) S hr.hd e0 (by simp) rv C hns kp
  show codeAny (model P w) A (.expr L.body (NdefX.envF (L.nf c') f s.heap.objs.size)) _ _
  refine PySem.W.kla_codeExpr (wpAny_mono ((hbody (hr.deeper _)).run [] _ _ H Q J ht) (fun v s' hq => ?_) fun e s' hq => hq)
  obtain ⟨v', H', J', rv', q⟩ := hq
  exact ⟨v', H', J'.os, J'.bare, J'.base, J'.hok, rv', q⟩
end
section
variable {Z : Cx}
/-- x(), x a slot that holds a lambda, at the very start of the def: nothing has been written since -/
theorem lam_act {N bs fr : List Str} {L : LamD} {f c' : Addr} {k i : Nat} {a : Str} {W : WX} {ws : List (Option V)} {tb : XK → TE} {p1 p2 : Pos} (tk : L2.Takes Z W) (hr : Room (k + 1) Z.A) (hB : LamB L bs) (S : NdefX.NScope N bs fr L.scope)
    (hl : IsLam Z.H_0 L f c') (hC : NdefX.CellsAt L.clo fr ws Z.s_0.heap Z.H_0) (nf : ∀ y c, L.clo.lookup y = some c → c ∉ Z.fs) (nx : ∀ y c, L.clo.lookup y = some c → c ∉ Z.ex)
    (hbody : ∀ (A : Around) (outer : List PySem.Env) (s : Shared) (H : Hp) (E : XK), Room k (A.deeper (NdefX.envF (L.nf c') f s.heap.objs.size)) → PE (NdefX.ncx (L2.CX Z.prog Z.w) Z.prog Z.w Z.K Z.mg Z.base N (L.nf c') f A outer s H E) L.body (tb E))
    (hN : Z.N[i]? = some a) (hv : Vis Z.env.scope a) (hd : (a == ("__debug__" : Str)) = false := by decide) (hcd : (a == ("__classdict__" : Str)) = false := by decide) :
    PE Z (.Call (.Name a p1) [] [] p2) (fun σZ HZ Q => σZ[i]? = some (some (.ref f)) ∧ HZ = Z.H_0 ∧ tb (WE W σZ) (NdefX.startF N (bs.map fun _ => V.int 0) ws) HZ Q) := ⟨fun pins s σZ HZ Q I ⟨hs, eH, ht⟩ => by
  subst eH
  refine wpAny_Call_Name_kw (thn ((pe_var (pos := p1) (i := i) hN hv hd hcd).run pins s σZ Z.H_0 (fun v H1 => v = .ref f ∧ H1 = Z.H_0) I ⟨.ref f, hs, rfl, rfl⟩) fun u s1 ⟨v, H1, I1, r1, ev, eH⟩ => ?_)
  subst ev
  subst eH
  obtain rfl : u = Value.ref f := r1
  obtain ⟨dV, doc, pm, ctv, us, of1, rv, hb⟩ := hl.binds I1 hB
  have C1 := hC.later nf nx I1
  refine PySem.W.callWith_F0 ⟨_, _, _, _, of1⟩ (wpAny_call (codeAny_mono (lam_run of1 (NdefX.codeO_at I1.hok hl.c) rv hb S C1 I1.env0 hr (fun h => hbody _ _ _ _ (WE W σZ) h) ht) fun rr s2 hq => ?_))
  cases rr with
  | error e => exact passAt tk σZ pins Z.H_0 s1 e s2 I1 hq
  | ok fl =>
    cases fl with
    | ret u => exact I1.after hq
    | next => exact False.elim hq
    | brk => exact False.elim hq
    | cont => exact False.elim hq⟩
end
end Dl
set_option autoImplicit true
/-! The data layer: the def that calls a lambda and tells what it raised. -/
namespace Dl
open PySem PySem.Spec PyProof.Rows L2 TL LamX NdefX

/-- what is told of a lambda: its names, how many of them have a default 0, the maker's slots that it captured, what it comes to -/
structure LamT where
  N : List Str
  b : Nat
  js : List Nat
  f : SE
/-- captured values -/
def capE : List Nat → Env → Option (List D)
  | [], _ => some []
  | j :: js, r => match r[j]?, capE js r with
    | some (some (.val d)), some ds => some (d :: ds)
    | _, _ => none
def lamE (t : LamT) (ds : List D) : Env := startE t.N (List.replicate t.b (.int 0) ++ ds)
noncomputable section
open Classical in
/-- what is told of a lambda that is handed to the def: LT, what the lambdas come to; KD, what is told of a raised class -/
def toldR [LamC] (LT : Nat → Option LamT) (KD : Nat → D → Option D) (r : Env) (d : D) (m1 : Sto) : R D := match d with
  | .fn k L => if L = LamC.L k then (match LT k with
    | some t => (match capE t.js r with
      | some ds => (match t.f (lamE t ds) m1 with
        | .ok _ m2 => .ok (.tup [.str [], .int 0]) m2
        | .exc c v m2 => (match KD c v with
          | some d' => .ok d' m2
          | none => .bad)
        | .bad => .bad)
      | none => .bad)
    | none => .bad) else .bad
  | _ => .bad
def sKind [LamC] (LT : Nat → Option LamT) (KD : Nat → D → Option D) (fa : SE) : SE := fun r m => bindR (fa r m) fun d m1 => toldR LT KD r d m1
end
/-- the held error as the suite has it -/
def heldD (e : Addr) (f : Str) : Option Addr → D → D
  | some dd, .int i => .erx e dd f i
  | _, _ => .cst (.ref e)
/-- how its value and its dict go together -/
def HeldV (v : D) (d : Option Addr) : Prop := (v = .own [] [] ∧ d = none) ∨ ∃ i dd, v = .int i ∧ d = some dd
/-- the def itself: its text, its errors' classes, its handler's telling -/
structure KindIs (P : Program) (w : World) (K : PySem.W.Frag) (mg : Str → Option Value) (t : Tf) (x a : Str) (st : Stmt) (Ng : List Str) (KD : Nat → D → Option D) : Prop where
  df : DefIs K mg x st
  hb : BindsOk st x [a]
  Sg : FnScope Ng [a] (defScope st)
  N0 : Ng[0]? = some a
  N3 : Ng.length = 3
  va : Vis (defScope st) a
  da : (a == ("__debug__" : Str)) = false
  ca : (a == ("__classdict__" : Str)) = false
  body : ∃ (ce en : Str) (b₀ : Stmt) (suite : List Stmt) (CS : Addr) (p1 p2 p3 p4 p5 p6 p7 p8 p9 p10 : Pos) (j1 j2 j3 : Nat) (bk : Addr → Nat → Option Addr → SS), Ng[1]? = some en ∧ (defScope st).names.lookup en = some .local ∧
    defBody st = [.Try [.Expr (.Call (.Name a p1) [] [] p2) p3] [.ExceptHandler (some (.Name ce p4)) (some en) (b₀ :: suite) p5] [] [] p6, .Return (some (.Tuple [.Constant (.str "") j1 p7, .Constant (.int 0) j2 p8] j3 p9)) p10] ∧
    (defScope st).names.lookup ce = some .globalImplicit ∧ mg ce = some (.ref CS) ∧ (ce == ("__debug__" : Str)) = false ∧ (∀ c v d', KD c v = some d' → (v = .own [] [] ∨ ∃ i, v = .int i) ∧ PySem.W.exmOne K (.ref (t.T c)) (.ref CS) = some true) ∧
    (∀ (base : Heap) (f : Addr) (cdv : Value) (A : Around) (outer : List PySem.Env) (s : Shared) (H : Hp) (e : Addr) (oe : Obj) (pn : List (Addr × Obj)) (c : Nat) (v d' : D) (d : Option Addr), KD c v = some d' → HeldV v d → Zc (.ref (t.T c)) d oe → (∃ vs, oe.data = .fields vs) → Room 0 (A.deeper (envOfC x (defScope st) s.heap.objs.size f cdv)) →
      DSs ((cxOf (L2.CX P w) P w K mg base Ng x (defScope st) f cdv A outer s H (fun _ _ _ => False)).suite e ((e, oe) :: pn)) ⟨t.T, t.fld, fun _ _ _ _ => False⟩ (b₀ :: suite) (bk e c d)) ∧
    ∀ c v d' d, KD c v = some d' → HeldV v d → ∀ e x m, bk e c d (startE Ng [x, heldD e (t.fld c) d v]) m = .rt d' m
/-- a lambda of the maker's text, as it may be called -/
structure LamOk (P : Program) (w : World) (K : PySem.W.Frag) (mg : Str → Option Value) (t : Tf) (lev : Nat) (L : LamD) (fr : List Str) (q : LamT) : Prop where
  ok : ∃ bs : List Str, bs.length = q.b ∧ LamB L bs ∧ NScope q.N bs fr L.scope ∧ q.N.length = q.b + q.js.length ∧
    ∀ (base : Heap) (f c' : Addr) (A : Around) (outer : List PySem.Env) (s : Shared) (H : Hp) (E : XK), Room lev (A.deeper (envF (L.nf c') f s.heap.objs.size)) → DE (ncx (L2.CX P w) P w K mg base q.N (L.nf c') f A outer s H E) ⟨t.T, t.fld, fun cls d _ H => E cls d H⟩ L.body q.f
section
variable {Y : Cx} {w : Wi}
theorem cap_reps {F : Hp} {io : List Addr} {pw : PWd} {x : Sx pw} {r : Env} {m : Sto} {σ : L2.St} {H : Hp} (R : Rel x r m σ H) : ∀ {js : List Nat} {ds : List D}, capE js r = some ds → ∃ vs, Reps x.F x.io ds vs ∧ js.map (slotAt σ) = vs.map some
  | [], _, e => by
    cases e
    exact ⟨[], .nil, rfl⟩
  | j :: js, ds, e => by
    unfold capE at e
    split at e
    · rename_i d ds' h1 h2
      cases e
      obtain ⟨vs, q1, q2⟩ := cap_reps (F := F) (io := io) R h2
      obtain ⟨v, A0, g1, g2, _⟩ := slot_at R h1
      cases g2 with
      | val rp => exact ⟨v :: vs, .cons rp q1, by rw [List.map_cons, List.map_cons, slotAt_of g1, q2]⟩
    · cases e
theorem start_cat {N : List Str} {vs us : List V} (h : N.length = vs.length + us.length) : startF N vs (us.map some) = L2.start N (vs ++ us) := by
  unfold startF L2.start
  rw [List.map_append, List.length_append, List.length_map, h, List.append_assoc]
  congr 2
  congr 1
  omega
theorem reps_zero {F : Hp} {io : List Addr} : ∀ n : Nat, Reps F io (List.replicate n (.int 0)) (List.replicate n (V.int 0))
  | 0 => .nil
  | n + 1 => .cons (.int 0) (reps_zero n)
/-- the call, in whatever context -/
theorem kind_call [C : LamC] {t : Tf} {x a : Str} {st : Stmt} {Ng fr : List Str} {KD : Nat → D → Option D} {LT : Nat → Option LamT} {lev k : Nat} {L : LamD} {q : LamT} {g : Addr} {fd : FuncData} {pins : List (Addr × Obj)} {σ : L2.St} {H1 : Hp} {s1 : Shared} {y : Sx (pwOf Y)} {r : Env} {m1 : Sto} {u : Value} {v : V} {ds : List D} {Q : VK}
    (ht : t = w.tf) (KI : KindIs Y.prog Y.w Y.K Y.mg t x a st Ng KD) (F : Fun Y.K x x st g fd) (hr : Room (lev + 2) Y.A) (I1 : Inv Y pins σ H1 s1) (R1 : Rel y r m1 σ H1) (p1 : Rep y.F y.io (.fn k L) v) (rv : RelV v u)
    (hL : LamOk Y.prog Y.w Y.K Y.mg t lev L fr q) (hcap : capE q.js r = some ds) (hC : CellsAt L.clo fr (q.js.map (slotAt σ)) s1.heap H1) (hnf : ∀ y c, L.clo.lookup y = some c → c ∉ frs Y.stack)
    (h : Fin (PV (pw := pwOf Y)) w y r σ H1 Q (match q.f (lamE q ds) m1 with
        | .ok _ m2 => .ok (.tup [.str [], .int 0]) m2
        | .exc c v m2 => (match KD c v with
          | some d' => .ok d' m2
          | none => .bad)
        | .bad => .bad)) : wpAny (model Y.prog Y.w) Y.A (call (.ref g) [u]) (EP Y pins σ Q) Y.xe s1 := by
  obtain ⟨oc, od, kV, doc, pm, an, cdv, ct, osl, rfl, lk, hcd⟩ := F.ex
  obtain ⟨ce, en, b₀, suite, CS, p1', p2, p3, p4, p5, p6, p7, p8, p9, p10, j1, j2, j3, bk, hN1, hen, hbody, hce, hmc, hdc, hex, hsu, hkd⟩ := KI.body
  obtain ⟨bs, hbl, hB, S, hNl, hbd⟩ := hL.ok
  cases p1 with
  | @fn _ _ f c' dV hf hc hdV =>
  obtain rfl : u = Value.ref f := rv
  have hl : IsLam H1 L f c' := ⟨R1.sub _ _ hc, dV, R1.sub _ _ hf, hdV.imp (fun z => z) fun ⟨h0, t, e1, e2⟩ => ⟨h0, t, e1, R1.sub _ _ e2⟩⟩
  obtain ⟨vs, rp, ews⟩ := cap_reps (F := y.F) (io := y.io) R1 hcap
  rw [ews] at hC
  have bT := KI.hb kV doc pm an cdv ct [.ref f] rfl
  have back : ∀ {z : Sx (pwOf Y)} {r' : Env} {m' : Sto} {s' : L2.St} {H' : Hp}, Rel z r' m' s' H' → StE (y.w1 []) H1 z H' → Rel (z.w1 y.A1) r m' σ H' ∧ StE y H1 (z.w1 y.A1) H' := fun Rz stz => R1.back ⟨stz.st.F, stz.st.io, stz.st.keep, stz.st.there, stz.st.newF, stz.st.newA⟩ Rz
  have rc : codeAny (model Y.prog Y.w) Y.A (.call (.ref g) ⟨[.ref f], []⟩) (CR (L2.CX Y.prog Y.w) Y.stack Y.prog Y.w H1 s1 Q (fun _ _ _ => False)) s1 := by
    refine run_ofS (N := Ng) (ps := [a]) (us := [.ref f]) (vs := [.ref f]) lk hcd KI.Sg hr I1.env0 (BindsTo.of_eq bT) (.cons rfl .nil) rfl fun hr' => ?_
    rw [hbody]
    refine ⟨_, pss_cons (L2.ps_try_as (i := 1) (c := .ref CS) (Wout := fun _ _ _ _ => False)
        (tb := fun W D' σZ HZ => σZ[0]? = some (some (.ref f)) ∧ HZ = H1 ∧ rd (PV (pw := pwOf Y)) ⟨w.T, w.fld, fun cls d _ H => WE W σZ cls d H⟩ q.f (startF q.N (bs.map fun _ => V.int 0) (vs.map some)) HZ (fun _ H' => D'.nx σZ H'))
        (ts := fun e cls d D' σZ HZ => ∃ c v d', KD c v = some d' ∧ HeldV v d ∧ cls = .ref (w.T c) ∧ rdS (pwOf Y) ⟨w.T, w.fld, fun _ _ _ _ => False⟩ (bk e c d) D' σZ HZ)
        rfl rfl KI.Sg.nd hN1 hen ⟨hce, hdc, .inl hmc⟩ L2.takes0 (fun W pn xe tk _ => ?_) (fun e oe cls d pn hz hv => ?_)) (pss_one (ps_ret (pe_tup (pa_cons pe_str (pa_cons pe_int pa_nil))))), ?_⟩
    · exact pss_one (ps_expr (lam_act (i := 0) (tb := fun E σ H Q => rd (PV (pw := pwOf Y)) ⟨w.T, w.fld, fun cls d _ H => E cls d H⟩ q.f σ H Q) tk hr' hB S hl hC hnf (fun _ _ _ z => by cases z) (fun A outer s H E h => by
          subst ht
          exact hbd _ f c' A outer s H E h) KI.N0 KI.va KI.da KI.ca))
    · refine ⟨fun pinsZ sZ σZ HZ DZ IZ ⟨c, v, d', z1, z2, z3, z4⟩ => ?_⟩
      subst z3 ht
      exact (hsu Y.base g cdv Y.A Y.stack s1 H1 e oe pn c v d' d z1 z2 hz hv (hr'.mono (Nat.zero_le _))).run pinsZ sZ σZ HZ DZ IZ z4
    · have e0 : L2.start Ng [.ref f] = [some (.ref f), none, none] := by
        unfold L2.start
        rw [KI.N3]
        rfl
      have e1 : (bs.map fun _ => V.int 0) = List.replicate q.b (V.int 0) := by rw [List.map_const', hbl]
      have hvl : vs.length = q.js.length := by
        have := congrArg List.length ews
        simpa using this.symm
      have e2 : startF q.N (bs.map fun _ => V.int 0) (vs.map some) = L2.start q.N (List.replicate q.b (V.int 0) ++ vs) := by
        rw [start_cat (by rw [hNl, List.length_map, hbl, hvl]), e1]
      rw [e0]
      refine ⟨rfl, rfl, ?_⟩
      rw [e2]
      refine ⟨y.w1 [], lamE q ds, m1, R1.leave.start ((reps_zero q.b).append rp), ?_⟩
      cases eT : q.f (lamE q ds) m1 with
      | bad =>
        rw [eT] at h
        exact h.elim
      | ok dd m2 =>
        rw [eT] at h
        intro v z H' Rz _ stz
        obtain ⟨Rb, stb⟩ := back Rz stz
        refine ⟨by rw [sizeLine_eq]; exact Nat.le_of_ble_eq_true rfl, fun pt hpt => ?_⟩
        exact h (.ref pt) _ _ (Rb.new (o := .tup [.str "", .int 0]) hpt) (.tup upd_same (.cons (.str []) (.cons (.int 0) .nil))) (stb.trans (StE.new (o := .tup [.str "", .int 0]) Rb hpt))
      | exc c vv m2 =>
        rw [eT] at h
        dsimp only at h
        cases eK : KD c vv with
        | none =>
          rw [eK] at h
          exact h.elim
        | some d' =>
          rw [eK] at h
          intro cls d z H' Rz ex stz
          obtain ⟨e1, e2⟩ := ex
          obtain ⟨kv, km⟩ := hex c vv d' eK
          have hh : HeldV vv d ∧ ∀ e : Addr, Rep z.F z.io (heldD e (w.fld c) d vv) (.ref e) := by
            rcases e2 with ⟨e2, e3⟩ | ⟨a, u, e3, e4, e5⟩
            · subst e2 e3
              exact ⟨.inl ⟨rfl, rfl⟩, fun e => .cst _⟩
            · subst e3
              rcases kv with kv | ⟨i, kv⟩
              · subst kv
                cases e5
              · subst kv
                cases e5
                exact ⟨.inr ⟨i, a, rfl, rfl⟩, fun e => .erx e4⟩
          obtain ⟨hh, hrep⟩ := hh
          subst e1
          obtain ⟨Rb, stb⟩ := back Rz stz
          refine ⟨true, by subst ht; exact km, fun _ e he => ⟨c, vv, d', eK, hh, rfl, ?_⟩, fun z => nomatch z⟩
          have e3 : ([some (V.ref f), none, none] : L2.St).set 1 (some (.ref e)) = L2.start Ng [.ref f, .ref e] := by
            unfold L2.start
            rw [KI.N3]
            rfl
          rw [e3]
          refine ⟨(z.w1 y.A1).w1 [], startE Ng [.fn k L, heldD e (w.fld c) d vv], m2, Rb.leave.start (.cons (.fn (stz.st.F _ _ hf) (stz.st.F _ _ hc) (hdV.imp (fun z => z) fun ⟨h0, t, e1, e2⟩ => ⟨h0, t, e1, stz.st.F _ _ e2⟩)) (.cons (hrep e) .nil)), ?_⟩
          have hbk := hkd c vv d' d eK hh e (.fn k L) m2
          subst ht
          rw [hbk]
          intro v y2 H2 Ry p2 st2
          obtain ⟨R3, st4⟩ := Rb.back ⟨st2.st.F, st2.st.io, fun b o h hb => st2.st.keep b o h (by simpa using hb), st2.st.there, fun b h1 h2 => (st2.st.newF b h1 h2).imp (fun z => z) fun z => by simpa using z, st2.st.newA⟩ Ry
          exact h v _ H2 R3 p2 (stb.trans st4)
  refine wpAny_call (codeAny_mono rc fun rr s2 hq => ?_)
  cases rr with
  | error e =>
    exfalso
    have hq : L2.CX Y.prog Y.w Y.stack H1 s1 (fun _ _ _ => False) e s2 := hq
    obtain ⟨_, _, _, _, _, _, _, _, _, _, _, _, z⟩ := hq
    exact z
  | ok fl =>
    cases fl with
    | ret u => exact I1.after hq
    | next => exact False.elim hq
    | brk => exact False.elim hq
    | cont => exact False.elim hq
end
end Dl
set_option autoImplicit true
/-! The data layer: a list made of what each of some lambdas comes to. -/
namespace Dl
open PySem PySem.Spec PyProof.Rows L2 TL LamX NdefX

section
variable {X : Cx}
/-- [elt for y in iter], the element told where the maker's own state at the block's start is known -/
theorem lc_outU {pins : List (Addr × Obj)} {s : Shared} {σ : L2.St} {H : Hp} {Q : VK} {elt iter : Expr} {y : Str} {yp : Pos} {pos pos' : Pos} {scope : Scope} {k : Nat} {wi : TI} {g : TG} {tt : TT} {te : TE} {use : Option (Value → Sem Unit)} {Qf : Value → Shared → Prop} (hc : X.calm = true) (hN : X.N.Nodup) (I : Inv X pins σ H s) (hi : PI X (.Name y yp) iter wi) (ok : BlkOk X.N X.env.scope scope [(y, k)])
    (hg : ∀ (s : Shared) (H : Hp) (C : Addr) (cl : List (Str × Addr)) (fp : List Addr), PG (X.blk s H scope (compEnvC scope cl C X.env) fp) (.Name y yp) g) (htt : ∀ σ H (Q : Bool → Hp → Prop), tt σ H Q → Q true H)
    (he : ∀ (s : Shared) (H : Hp) (C : Addr) (cl : List (Str × Addr)) (fp : List Addr), Inv X pins σ H s → (∀ b ∈ fp, FpOk X pins H b) → PE (X.blk s H scope (compEnvC scope cl C X.env) fp) elt te)
    (hs : ∀ x, foldedSetIterable iter X.env x = pure x) (h : tLc wi g tt te [k] σ H Q)
    (hRR : ∀ D C s' m H', Inv X pins σ H' s' → Q (.ref D) H' → s'.heap.Ns C m → FpOk X pins H' C → compPost (model X.prog X.w) X.A X.xe use Qf (.ref D) C (.ok .next) s') :
    wpAny (model X.prog X.w) X.A (comprehension (.ListComp elt [⟨.Name y yp, iter, [], 0⟩] scope pos) scope X.env pos' (newList []) false (eval iter X.env) use) Qf X.xe s := by
  have caught : ∀ z ∈ scope.names, z.2 = .free → ∃ c, X.env.cells.lookup z.1 = some c := fun z hz e => (ok.free z hz e).elim (fun q => I.ok.has _ (.inl q)) fun q => I.ok.has _ (.inr q)
  refine wpAny_comprehension_free (use := use) rfl hs (closure_ok caught) ok.kind (fun z hz e => by rw [ok.uniq z hz, e]) (wpAny_mono (hi.run pins s σ H _ I h) (fun iv s1 q1 => wpAny_mono q1 (fun jv s2 q2 => ?_) fun _ _ z => z) fun _ _ z => z)
  obtain ⟨it, fp, tn, J, Ha, rfl, Ia, T, ta, fa, q⟩ := q2
  refine wpAny_newObj_type (newEnv_comp ?_) (by show 0 ≤ sizeLine; decide)
  have nD : Ha s2.heap.objs.size = none := Ia.hok.fresh (Nat.le_refl _)
  obtain ⟨W, ⟨m0, w0⟩, turn⟩ := q s2.heap.objs.size nD
  -- the list stands
  have Ib := Ia.laid (t' := s2.toks) (h' := s2.heap.push { cls := .type "list", data := .seq ([] : List Value).toArray }) (o := .lst []) (fun b o e => Heap.get?_push_of_some _ e) (Nat.le_refl _) ⟨Nat.zero_le _, [], 0, .nil, Heap.get?_push_size _ rfl⟩
  have small : ∀ b ∈ fp, b < s2.heap.objs.size := fun b hb => (T.obj _ _ ta b hb).elim fun o e => Heap.lt_size e.1
  have fb : ∀ b ∈ fp, FpOk X pins (upd Ha s2.heap.objs.size (.lst [])) b ∧ b < (s2.heap.push { cls := .type "list", data := .seq ([] : List Value).toArray }).objs.size := fun b hb =>
    ⟨⟨by rw [upd_ne (Nat.ne_of_lt (small b hb))]; exact (fa b hb).1, (fa b hb).2⟩, by rw [Heap.size_push]; exact Nat.lt_succ_of_lt (small b hb)⟩
  generalize eS : ({ s2 with heap := s2.heap.push { cls := .type "list", data := .seq ([] : List Value).toArray } } : Shared) = sb at Ib
  have eH : sb.heap = s2.heap.push { cls := .type "list", data := .seq ([] : List Value).toArray } := by rw [← eS]
  rw [← eH] at fb
  have tb : tn 0 sb.heap := T.keep _ _ _ ta fun b _ o e => by rw [eH]; exact Heap.get?_push_of_some _ e
  generalize eHb : upd Ha s2.heap.objs.size (.lst []) = Hb at Ib fb w0
  generalize eD : s2.heap.objs.size = D at *
  have Ic := block_start Ib ok hN fb
  have gC := hg sb Hb sb.heap.objs.size (cellsFrom (sb.heap.objs.size + 1) scope.names (cloFrom X.env.cells scope.names [])) fp
  have eC := he sb Hb sb.heap.objs.size (cellsFrom (sb.heap.objs.size + 1) scope.names (cloFrom X.env.cells scope.names [])) fp Ib fun b hb => (fb b hb).1
  show codeAny _ _ (.compStart (.ListComp elt [⟨.Name y yp, iter, [], 0⟩] scope pos) 0 (.ref it) (.ref D) (compEnvC scope (cellsFrom (sb.heap.objs.size + 1) scope.names (cloFrom X.env.cells scope.names [])) sb.heap.objs.size X.env)) (compPost (model X.prog X.w) X.A X.xe use _ (.ref D) sb.heap.objs.size) { sb with heap := pushCells (sb.heap.push { cls := .type "dict", data := .dict #[] }) scope.names }
  have free : ∀ b ∈ fp, Hb b = none := fun b hb => (fb b hb).1.1
  have tc : tn 0 (pushCells (sb.heap.push { cls := .type "dict", data := .dict #[] }) scope.names) := T.keep _ _ _ tb fun b _ o e => pushCells_keeps _ _ _ _ (Heap.get?_push_of_some _ e)
  generalize eE : compEnvC scope (cellsFrom (sb.heap.objs.size + 1) scope.names (cloFrom X.env.cells scope.names [])) sb.heap.objs.size X.env = ce at Ic gC eC ⊢
  have lE : ce.locals = sb.heap.objs.size := by rw [← eE]; rfl
  generalize eT : ({ sb with heap := pushCells (sb.heap.push { cls := .type "dict", data := .dict #[] }) scope.names } : Shared) = sc at Ic ⊢
  have tc : tn 0 sc.heap := by rw [← eT]; exact tc
  have look : ∀ {σ' : L2.St} {H' : Hp} {s' : Shared}, Inv (X.blk sb Hb scope ce fp) [] σ' H' s' → (∀ b ∈ fp, H' b = none) → ∀ b ∈ fp, FpOk (X.blk sb Hb scope ce fp) [] H' b := fun {σ' H' s'} J1 n b hb =>
    ⟨n b hb, (J1.ok.exf b hb).1, J1.ok.exfs b hb, .inl hb, fun z c e => (J1.ok.exf b hb).2 z c e, fun p hp => by simp at hp⟩
  have go : codeAny (model X.prog X.w) X.A (.compLoop (.ListComp elt [⟨.Name y yp, iter, [], 0⟩] scope pos) 0 (.ref it) (.ref D) ce) (compPost (model X.prog X.w) X.A X.xe use Qf (.ref D) sb.heap.objs.size) sc := by
    refine compLoop_any (fun n z => ∃ i Hz, Inv (X.blk sb Hb scope ce fp) [] (wipe σ [k]) Hz z ∧ tn i z.heap ∧ (∀ b ∈ fp, Hz b = none) ∧ W i n Hz) (fun n z hz => ?_) m0 ⟨0, Hb, Ic, tc, free, w0⟩
    obtain ⟨i, Hz, Jz, tz, nz, wz⟩ := hz
    rcases turn i n Hz wz with ⟨stop, qq⟩ | ⟨on, Nx, hNx, step⟩
    · refine thnF (T.done (X.blk sb Hb scope ce fp) rfl rfl rfl hc i [] z _ Hz (fun _ _ => False) Jz (look Jz nz) tz stop) fun r s6 ⟨hr, J6⟩ => ?_
      subst hr
      have I7 : Inv X pins σ Hz s6 := Ib.call' (ch := fp) J6.os J6.base J6.hok J6.bare fun b hb => ⟨(fb b hb).1.2.2.2.1, (fb b hb).1.2.1, (fb b hb).1.2.2.2.2.1, (fb b hb).1.2.2.2.2.2⟩
      have nC : Hz sb.heap.objs.size = none := by rw [← lE]; exact J6.free
      obtain ⟨mm, hn, _⟩ := J6.loc
      exact hRR D sb.heap.objs.size s6 mm Hz I7 qq (by rw [← lE]; exact hn) (Ib.fpOk (H' := Hz) (Nat.le_refl sb.heap.objs.size) nC)
    · refine thnF (T.item (X.blk sb Hb scope ce fp) rfl rfl rfl hc i [] z _ Hz (fun _ _ => False) Jz (look Jz nz) tz on) fun r s6 ⟨u, hr, q6⟩ => ?_
      subst hr
      refine thnF q6 fun _ s7 ⟨x, H7, J7, r7, y7, t7, n7⟩ => ?_
      have J8 := J7.pinned (look J7 n7) (T.obj _ _ t7)
      refine thnF (gC.run _ s7 _ H7 x u _ J8 r7 (step x H7 y7)) fun _ s8 ⟨σ8, H8, J9, w8, q8⟩ => ?_
      refine wpAny_pure ?_
      have q8 := htt _ _ _ q8
      simp only [if_true] at q8 ⊢
      refine thnF (eC.run _ s8 σ8 H8 _ J9 q8) fun v s9 ⟨yv, H10, J10, r10, acc, hD, hz, nx⟩ => ?_
      refine app_ok (X := X.blk sb Hb scope ce fp) J10 hD hz r10 fun s11 J11 => ?_
      obtain ⟨m', hm, w'⟩ := hNx _ nx
      have pin' : ∀ b ∈ fp, ∀ o, s7.heap.get? b = some o → s11.heap.get? b = some o ∧ upd H10 D (.lst (acc ++ [yv])) b = none := fun b hb o e => by
        have p := J11.pin (b, o) (List.mem_append_right _ (List.mem_append_right _ (mem_pinsAt hb e)))
        exact ⟨p.1, p.2.1⟩
      refine ⟨m', hm, i + 1, _, (J11.unpinned (pins := [])).weak (by rw [← w8, wipe_length]) (fun j v e => ?_), T.keep _ _ _ t7 fun b hb o e => (pin' b hb o e).1, fun b hb => ?_, w'⟩
      · rw [← w8] at e
        exact (wipe_some e).1
      · obtain ⟨o, e, _⟩ := T.obj _ _ t7 b hb
        exact (pin' b hb o e).2
  exact codeAny_compStart_list go (T.self X.A 0 _ _ _ tc go)
/-- as a value -/
theorem lc_out {pins : List (Addr × Obj)} {s : Shared} {σ : L2.St} {H : Hp} {Q : VK} {elt iter : Expr} {y : Str} {yp pos : Pos} {scope : Scope} {k : Nat} {wi : TI} {g : TG} {tt : TT} {te : TE} (hc : X.calm = true) (hN : X.N.Nodup) (I : Inv X pins σ H s) (hi : PI X (.Name y yp) iter wi) (ok : BlkOk X.N X.env.scope scope [(y, k)])
    (hg : ∀ (s : Shared) (H : Hp) (C : Addr) (cl : List (Str × Addr)) (fp : List Addr), PG (X.blk s H scope (compEnvC scope cl C X.env) fp) (.Name y yp) g) (htt : ∀ σ H (Q : Bool → Hp → Prop), tt σ H Q → Q true H)
    (he : ∀ (s : Shared) (H : Hp) (C : Addr) (cl : List (Str × Addr)) (fp : List Addr), Inv X pins σ H s → (∀ b ∈ fp, FpOk X pins H b) → PE (X.blk s H scope (compEnvC scope cl C X.env) fp) elt te)
    (hs : ∀ x, foldedSetIterable iter X.env x = pure x) (h : tLc wi g tt te [k] σ H Q) : wpAny (model X.prog X.w) X.A (eval (.ListComp elt [⟨.Name y yp, iter, [], 0⟩] scope pos) X.env) (EP X pins σ Q) X.xe s := by
  rw [eval_ListComp]
  refine lc_outU hc hN I hi ok hg htt he hs h fun D C s' m H' I' q hn f => ⟨m, hn, fun h'' same => ?_⟩
  obtain ⟨f0, f1, f2, f3, f4, f5⟩ := f
  exact ⟨.ref D, H', I'.turned (t' := s'.toks) (fun b o hb e => (same.2 b hb).trans e) f0 f1 f3 f4 f5, rfl, q⟩
/-- as a local's value -/
theorem lc_outSet {pins : List (Addr × Obj)} {s : Shared} {σ : L2.St} {H : Hp} {D : L2.Ends} {elt iter : Expr} {y z : Str} {yp zp pos spos : Pos} {scope : Scope} {k i : Nat} {wi : TI} {g : TG} {tt : TT} {te : TE} (hc : X.calm = true) (hN : X.N.Nodup) (hy : X.N[i]? = some z) (hyl : X.env.scope.names.lookup z = some .local)
    (hsw : swapsWith (.ListComp elt [⟨.Name y yp, iter, [], 0⟩] scope pos) (some (.Name z zp)) spos.line X.env = pure true) (I : Inv X pins σ H s) (hi : PI X (.Name y yp) iter wi) (ok : BlkOk X.N X.env.scope scope [(y, k)])
    (hg : ∀ (s : Shared) (H : Hp) (C : Addr) (cl : List (Str × Addr)) (fp : List Addr), PG (X.blk s H scope (compEnvC scope cl C X.env) fp) (.Name y yp) g) (htt : ∀ σ H (Q : Bool → Hp → Prop), tt σ H Q → Q true H)
    (he : ∀ (s : Shared) (H : Hp) (C : Addr) (cl : List (Str × Addr)) (fp : List Addr), Inv X pins σ H s → (∀ b ∈ fp, FpOk X pins H b) → PE (X.blk s H scope (compEnvC scope cl C X.env) fp) elt te)
    (hs : ∀ x, foldedSetIterable iter X.env x = pure x) (h : tLc wi g tt te [k] σ H (fun v H1 => L2.gName i v σ H1 D.nx)) : wpAny (model X.prog X.w) X.A (exec (.Assign [.Name z zp] (.ListComp elt [⟨.Name y yp, iter, [], 0⟩] scope pos) spos) X.env) (SP X pins D) X.xe s := by
  rw [exec_Assign_Name_used _ _ _ _ hsw]
  refine wpAny_bind (wpAny_standAt (wpAny_bind ?_))
  show wpAny _ X.A (do let _ ← comprehension (.ListComp elt [⟨.Name y yp, iter, [], 0⟩] scope pos) scope X.env (firstIterPos [⟨.Name y yp, iter, [], 0⟩] pos) (newList []) false (eval iter X.env) (some (assign (.Name z zp) X.env))) _ _ s
  refine wpAny_bind (thn (lc_outU (Qf := fun _ s' => SP X pins D .next s') hc hN I hi ok hg htt he hs h fun L C s' m H' I' q hn f => ?_) fun _ s' hq => wpAny_pure (wpAny_pure hq))
  show wpAny _ _ (assign (.Name z zp) X.env (.ref L)) _ _ _
  refine wpAny_assign_Name (store_ok2 (v := V.ref L) I' hN hy (.inl hyl) rfl (fun s2 I2 ⟨a, sb, ha⟩ => ?_) (.inr hyl))
  obtain ⟨f0, f1, f2, f3, f4, f5⟩ := f
  have haC : C ≠ a := by
    rcases ha with q | q
    · rw [q]; exact f1
    · exact fun e => f4 z a q e.symm
  exact ⟨m, hn.sameBut sb haC, fun h3 sb3 => ⟨_, H', I2.turned (t' := s2.toks) (fun b o hb e => (sb3.2 b hb).trans e) f0 f1 f3 f4 f5, q⟩⟩
end
end Dl
set_option autoImplicit true
/-! The data layer: the telling def called, by itself and for each of a list. -/
namespace Dl
open PySem PySem.Spec PyProof.Rows L2 TL LamX NdefX

/-- the lambdas of the def that is walked -/
structure LamsOk (X : Cx) (t : Tf) [C : LamC] (lev : Nat) (LT : Nat → Option LamT) : Prop where
  fn : ∀ y, X.fn y = true
  ok : ∀ k q, LT k = some q → ∃ (params : Arguments) (body : Expr) (scope : Scope) (fr : List Str), C.L k = ⟨params, body, scope, X.env.qual ++ "<lambda>", cloFrom X.env.cells scope.names []⟩ ∧
    LamOk X.prog X.w X.K X.mg t lev ⟨params, body, scope, X.env.qual ++ "<lambda>", cloFrom X.env.cells scope.names []⟩ fr q ∧
    (∀ y ∈ scope.names, y.2 = .free → X.env.scope.names.lookup y.1 = some .cell ∨ X.env.scope.names.lookup y.1 = some .free) ∧ (∀ y ∈ fr, (y, NameKind.free) ∈ scope.names) ∧ q.js.map (fun j => X.N[j]?) = fr.map some
theorem cells_nf {X : Cx} {pins : List (Addr × Obj)} {σ : L2.St} {H : Hp} {s : Shared} (hfn : ∀ y, X.fn y = true) (I : Inv X pins σ H s) {y : Str} {c : Addr} (e : X.env.cells.lookup y = some c) : c ∉ frs X.stack := by
  have out : c ∉ frs X.outer := fun hm => by
    obtain ⟨_, o, ho, _⟩ := I.ok.funs.mem hm
    exact Nat.lt_irrefl _ (Nat.lt_of_lt_of_le (Heap.lt_size ho) (I.ok.cab y c (hfn y) e))
  rcases I.ok.stk with h | ⟨h, hf⟩
  · rw [h]
    exact out
  · rw [h]
    intro hm
    obtain ⟨a, ha, hl⟩ := List.mem_filterMap.mp hm
    rcases List.mem_cons.mp ha with rfl | ha
    · rw [hf] at hl
      have hl : X.env.locals = c := Option.some.inj hl
      obtain ⟨m, ⟨o, es, ep, ho, hd, _⟩, _⟩ := I.loc
      obtain ⟨v, o2, ho2, hd2⟩ := I.cell y c e
      rw [hl, ho2] at ho
      cases ho
      rw [hd2] at hd
      cases hd
    · exact out (List.mem_filterMap.mpr ⟨a, ha, hl⟩)
section
variable {X : Cx} {w : Wi} [C : LamC]
/-- what is told, from a state in which the cells are known -/
theorem told_call {Y : Cx} {t : Tf} {x a : Str} {st : Stmt} {Ng : List Str} {KD : Nat → D → Option D} {LT : Nat → Option LamT} {lev : Nat} {g : Addr} {fd : FuncData} {pins : List (Addr × Obj)} {σ : L2.St} {H1 : Hp} {s1 : Shared} {y : Sx (pwOf Y)} {r : Env} {m1 : Sto} {u : Value} {v : V} {d : D} {Q : VK}
    (ht : t = w.tf) (KI : KindIs Y.prog Y.w Y.K Y.mg t x a st Ng KD) (F : Fun Y.K x x st g fd) (hr : Room (lev + 2) Y.A) (I1 : Inv Y pins σ H1 s1) (R1 : Rel y r m1 σ H1) (p1 : Rep y.F y.io d v) (rv : RelV v u)
    (hL : ∀ k q, LT k = some q → ∃ fr, LamOk Y.prog Y.w Y.K Y.mg t lev (C.L k) fr q ∧ CellsAt (C.L k).clo fr (q.js.map (slotAt σ)) s1.heap H1 ∧ ∀ y c, (C.L k).clo.lookup y = some c → c ∉ frs Y.stack)
    (h : Fin (PV (pw := pwOf Y)) w y r σ H1 Q (toldR LT KD r d m1)) : wpAny (model Y.prog Y.w) Y.A (call (.ref g) [u]) (EP Y pins σ Q) Y.xe s1 := by
  unfold toldR at h
  cases d with
  | fn k L =>
    dsimp only at h
    by_cases hk : L = C.L k
    · subst hk
      rw [if_pos rfl] at h
      cases eL : LT k with
      | none => rw [eL] at h; exact h.elim
      | some q =>
        rw [eL] at h
        dsimp only at h
        cases ec : capE q.js r with
        | none => rw [ec] at h; exact h.elim
        | some ds =>
          rw [ec] at h
          obtain ⟨fr, h1, h2, h3⟩ := hL k q eL
          exact kind_call (LT := LT) ht KI F hr I1 R1 p1 rv h1 ec h2 h3 h
    · rw [if_neg hk] at h
      exact h.elim
  | _ => exact h.elim
/-- f(e), f the telling def -/
theorem de_kind {t : Tf} {x a : Str} {st : Stmt} {Ng : List Str} {KD : Nat → D → Option D} {LT : Nat → Option LamT} {lev : Nat} {fa : SE} {arg : Expr} {p pos : Pos} (ht : t = w.tf) (KI : KindIs X.prog X.w X.K X.mg t x a st Ng KD) (hL : LamsOk X t lev LT) (hr : Room (lev + 2) X.A) (hg : Gl X x) (ha : DE X w arg fa)
    (hdb : (x == ("__debug__" : Str)) = false := by decide) (he : starEach [arg] X.env = (false, eval arg X.env) :: starEach [] X.env := by rfl) : DE X w (.Call (.Name x p) [arg] [] pos) (sKind LT KD fa) := ⟨fun pins s σ H Q I ⟨x0, r, m, R, q⟩ => by
  obtain ⟨g, fd, F, hm⟩ := KI.df.ex
  refine wpAny_Call_Name_kw (ld_glob I hg hm ?_ hdb)
  refine PySem.W.callWith_K (h₀ := X.base) I.ok.mod.kin F.kp ?_ he (by rfl)
  rw [he]
  show wpAny _ _ (spliced ((false, eval arg X.env) :: backTo pos (starEach [] X.env))) _ _ s
  have h1 : rd (PV (pw := pwOf X)) w fa σ H fun v H1 => ∃ (y : Sx (pwOf X)) (m1 : Sto) (d : Dl.D), Rel y r m1 σ H1 ∧ Rep y.F y.io d v ∧ Fin (PV (pw := pwOf X)) w y r σ H1 Q (toldR LT KD r d m1) :=
    rd_bind R q fun d m1 v y H1 R1 p1 st1 q1 => ⟨y, m1, d, R1, p1, q1⟩
  refine Calls.spliced_cons (thn (ha.run pins s σ H _ I h1) fun u s1 ⟨v, H1, I1, r1, y, m1, d, R1, p1, q1⟩ => ?_)
  refine Calls.spliced_nil ⟨I1.kIn, told_call ht KI F hr I1 R1 p1 r1 (fun k q hk => ?_) q1⟩
  obtain ⟨params, body, scope, fr, e, h2, h3, h4, h5⟩ := hL.ok k q hk
  rw [e]
  exact ⟨fr, h2, cells_of I1 (Caps.made I1.ok h3 h4 h5), fun y c hc => cells_nf hL.fn I1 ((Caps.made I1.ok h3 h4 h5).sub y c hc)⟩⟩
theorem slot_wipe {σ σ' : L2.St} {k j : Nat} (h : wipe σ' [k] = wipe σ [k]) (hj : j ≠ k) : σ'[j]? = σ[j]? := by
  have h1 := wipe_out (σ := σ') (i := j) (vs := [k]) (by simpa using hj)
  have h2 := wipe_out (σ := σ) (i := j) (vs := [k]) (by simpa using hj)
  rw [← h1, ← h2, h]
/-- what the element comes to: the maker's slots stand as they stood -/
def teK (pw : PWd) (wi : Wi) (σ : L2.St) (k : Nat) (f : SE) : TE := fun σ' H' Q => (∀ j, j ≠ k → σ'[j]? = σ[j]?) ∧ rd (PV (pw := pw)) wi f σ' H' Q
theorem kind_tlc {i : SL} {f : SE} {k : Nat} {σ : L2.St} {H : Hp} {Q : VK} (h0 : tLc (rd (PIt (pw := pwOf X)) w i) (rdG (pwOf X) [k] (gN k)) (rd (PB (pw := pwOf X)) w.no sYes) (rd (PV (pw := pwOf X)) w.no f) [k] σ H Q) :
    tLc (rd (PIt (pw := pwOf X)) w i) (rdG (pwOf X) [k] (gN k)) (rd (PB (pw := pwOf X)) w.no sYes) (teK (pwOf X) w.no σ k f) [k] σ H Q := by
  obtain ⟨x0, r0, m0, R0, q0⟩ := h0
  refine ⟨x0, r0, m0, R0, Fin.imp q0 (fun _ _ _ _ p => p) fun J H1 hJ D hD => ?_⟩
  obtain ⟨W, hm, turn⟩ := hJ D hD
  refine ⟨W, hm, fun n m H hW => (turn n m H hW).imp (fun z => z) fun ⟨go, Nx, hNx, step⟩ => ⟨go, Nx, hNx, fun x H' hy => ?_⟩⟩
  obtain ⟨x1, r1, m1, d1, R1, p1, q1⟩ := step x H' hy
  refine ⟨x1, r1, m1, d1, R1, p1, ?_⟩
  intro s' y2 a b c d e f
  obtain ⟨w1, x2, r2, m2, R2, q2⟩ := q1 s' y2 a b c d e f
  refine ⟨w1, x2, r2, m2, R2, Fin.imp q2 (fun _ _ _ _ p => p) fun bb H3 hb => ?_⟩
  cases bb with
  | false => exact hb
  | true =>
    simp only [if_true] at hb ⊢
    exact ⟨fun j hj => slot_wipe w1 hj, hb⟩
theorem kind_elt {t : Tf} {x a y : Str} {st : Stmt} {Ng : List Str} {KD : Nat → D → Option D} {LT : Nat → Option LamT} {lev k : Nat} {scope : Scope} {p1 p2 p3 : Pos} {pins : List (Addr × Obj)} {σ : L2.St} {s : Shared} {H : Hp} {Cb : Addr} {cl : List (Str × Addr)} {fp : List Addr} (ht : t = w.tf) (KI : KindIs X.prog X.w X.K X.mg t x a st Ng KD) (hL : LamsOk X t lev LT) (hr : Room (lev + 2) X.A)
    (hk : X.N[k]? = some y) (hjs : ∀ n q, LT n = some q → k ∉ q.js) (hdb : (x == ("__debug__" : Str)) = false) (hdy : (y == ("__debug__" : Str)) = false) (hcy : (y == ("__classdict__" : Str)) = false)
    (hg2 : Gl (X.blk s H scope (compEnvC scope cl Cb X.env) fp) x) (hv2 : Vis (X.blk s H scope (compEnvC scope cl Cb X.env) fp).env.scope y)
    (hst : starEach [.Name y p3] (X.blk s H scope (compEnvC scope cl Cb X.env) fp).env = (false, eval (.Name y p3) (X.blk s H scope (compEnvC scope cl Cb X.env) fp).env) :: starEach [] (X.blk s H scope (compEnvC scope cl Cb X.env) fp).env) (Ib : Inv X pins σ H s) (hfp : ∀ b ∈ fp, FpOk X pins H b) :
    PE (X.blk s H scope (compEnvC scope cl Cb X.env) fp) (.Call (.Name x p1) [.Name y p3] [] p2) (teK (pwOf X) w.no σ k (sKind LT KD (sVar k))) := by
  refine ⟨fun pinsZ sZ σZ HZ QZ IZ ⟨agree, x0, r, m, R, q⟩ => ?_⟩
  obtain ⟨g, fd, F, hm⟩ := KI.df.ex
  refine wpAny_Call_Name_kw (ld_glob IZ hg2 hm ?_ hdb)
  refine PySem.W.callWith_K (h₀ := X.base) IZ.ok.mod.kin F.kp ?_ hst (by rfl)
  rw [hst]
  show wpAny _ _ (spliced ((false, eval (.Name y p3) (X.blk s H scope (compEnvC scope cl Cb X.env) fp).env) :: backTo p2 (starEach [] (X.blk s H scope (compEnvC scope cl Cb X.env) fp).env))) _ _ sZ
  have h1 : rd (PV (pw := pwOf X)) w.no (sVar k) σZ HZ fun v H1 => ∃ (y : Sx (pwOf X)) (m1 : Sto) (d : Dl.D), Rel y r m1 σZ H1 ∧ Rep y.F y.io d v ∧ Fin (PV (pw := pwOf X)) w.no y r σZ H1 QZ (toldR LT KD r d m1) :=
    rd_bind R q fun d m1 v y H1 R1 p1 st1 q1 => ⟨y, m1, d, R1, p1, q1⟩
  refine Calls.spliced_cons (thn ((de_var (X := X.blk s H scope (compEnvC scope cl Cb X.env) fp) (pe_var (pos := p3) (i := k) hk hv2 hdy hcy)).run pinsZ sZ σZ HZ _ IZ h1) fun u s1 ⟨v, H1, I1, r1, y1, m1, d, R1, pp, q1⟩ => ?_)
  refine Calls.spliced_nil ⟨I1.kIn, told_call (Y := X.blk s H scope (compEnvC scope cl Cb X.env) fp) (w := w.no) ht KI F hr I1 R1 pp r1 (fun n q hk => ?_) q1⟩
  obtain ⟨params, body, scope', fr, e, h2, h3, h4, h5⟩ := hL.ok n q hk
  rw [e]
  have cp := Caps.made (scope := scope') Ib.ok h3 h4 h5
  have C0 := cells_of Ib cp
  have nf : ∀ z c, (cloFrom X.env.cells scope'.names []).lookup z = some c → c ∉ frs X.stack := fun z c hz => cells_nf hL.fn Ib (cp.sub z c hz)
  have C1 := C0.later (X := X.blk s H scope (compEnvC scope cl Cb X.env) fp) nf (fun z c hz hx => (hfp c hx).2.2.2.2.1 z c (cp.sub z c hz) rfl) I1
  have ew : q.js.map (slotAt σZ) = q.js.map (slotAt σ) := by
    apply List.map_congr_left
    intro j hj
    have hjk : j ≠ k := fun z => hjs n q hk (z ▸ hj)
    unfold NdefX.slotAt
    rw [agree j hjk]
  rw [ew]
  exact ⟨fr, h2, C1, nf⟩
section
variable {t : Tf} {x a y : Str} {st : Stmt} {Ng : List Str} {KD : Nat → D → Option D} {LT : Nat → Option LamT} {lev k : Nat} {i : SL} {iter : Expr} {scope : Scope} {p1 p2 p3 yp pos : Pos} (ht : t = w.tf) (KI : KindIs X.prog X.w X.K X.mg t x a st Ng KD) (hL : LamsOk X t lev LT) (hr : Room (lev + 2) X.A)
    (hc : X.calm = true) (hN : X.N.Nodup) (hi : DI X w (.Name y yp) iter i) (ok : BlkOk X.N X.env.scope scope [(y, k)]) (hk : X.N[k]? = some y) (hly : scope.names.lookup y = some .local) (hjs : ∀ n q, LT n = some q → k ∉ q.js)
    (hg : scope.names.lookup x = some .globalImplicit) 
    (hg2 : ∀ (s : Shared) (H : Hp) (C : Addr) (cl : List (Str × Addr)) (fp : List Addr), Gl (X.blk s H scope (compEnvC scope cl C X.env) fp) x) (hv2 : ∀ (s : Shared) (H : Hp) (C : Addr) (cl : List (Str × Addr)) (fp : List Addr), Vis (X.blk s H scope (compEnvC scope cl C X.env) fp).env.scope y)
    (hl2 : ∀ (s : Shared) (H : Hp) (C : Addr) (cl : List (Str × Addr)) (fp : List Addr), (X.blk s H scope (compEnvC scope cl C X.env) fp).env.scope.names.lookup y = some .local)
include ht KI hL hr hc hN hi ok hk hly hjs hg hg2 hv2 hl2
/-- [f(y) for y in iter] -/
theorem de_lcKind (hdb : (x == ("__debug__" : Str)) = false := by decide) (hdy : (y == ("__debug__" : Str)) = false := by decide) (hcy : (y == ("__classdict__" : Str)) = false := by decide) (hs : ∀ x, foldedSetIterable iter X.env x = pure x := by intro _; rfl)
    (hst : ∀ (s : Shared) (H : Hp) (C : Addr) (cl : List (Str × Addr)) (fp : List Addr), starEach [.Name y p3] (X.blk s H scope (compEnvC scope cl C X.env) fp).env = (false, eval (.Name y p3) (X.blk s H scope (compEnvC scope cl C X.env) fp).env) :: starEach [] (X.blk s H scope (compEnvC scope cl C X.env) fp).env := by intros; rfl) :
    DE X w (.ListComp (.Call (.Name x p1) [.Name y p3] [] p2) [⟨.Name y yp, iter, [], 0⟩] scope pos) (sLc [k] i (gN k) sYes (sKind LT KD (sVar k))) := ⟨fun pins s σ H Q I h =>
  lc_out hc hN I hi ok (fun s H C cl fp => dg_name (X := X.blk s H scope (compEnvC scope cl C X.env) fp) hN hk (.inl (hl2 s H C cl fp)) (.inr (hl2 s H C cl fp))) (fun σ H Q ⟨x, r, m, R, q⟩ => q true x H R rfl .refl)
    (fun sb Hb Cb cl fp Ib hfp => kind_elt (w := w) ht KI hL hr hk hjs hdb hdy hcy (hg2 sb Hb Cb cl fp) (hv2 sb Hb Cb cl fp) (hst sb Hb Cb cl fp) Ib hfp) hs (kind_tlc (w := w) (lc_rd (pw := pwOf X) (g := gN k) (ws := [k]) (vs := [k]) (by simp) σ H Q h))⟩
/-- z = [f(y) for y in iter], z a local -/
theorem ds_setKind {l : Nat} {z : Str} {zp spos : Pos} (hz : X.N[l]? = some z) (hzl : X.env.scope.names.lookup z = some .local) (hsw : swapsWith (.ListComp (.Call (.Name x p1) [.Name y p3] [] p2) [⟨.Name y yp, iter, [], 0⟩] scope pos) (some (.Name z zp)) spos.line X.env = pure true)
    (hdb : (x == ("__debug__" : Str)) = false := by decide) (hdy : (y == ("__debug__" : Str)) = false := by decide) (hcy : (y == ("__classdict__" : Str)) = false := by decide) (hs : ∀ x, foldedSetIterable iter X.env x = pure x := by intro _; rfl)
    (hst : ∀ (s : Shared) (H : Hp) (C : Addr) (cl : List (Str × Addr)) (fp : List Addr), starEach [.Name y p3] (X.blk s H scope (compEnvC scope cl C X.env) fp).env = (false, eval (.Name y p3) (X.blk s H scope (compEnvC scope cl C X.env) fp).env) :: starEach [] (X.blk s H scope (compEnvC scope cl C X.env) fp).env := by intros; rfl) :
    DS X w (.Assign [.Name z zp] (.ListComp (.Call (.Name x p1) [.Name y p3] [] p2) [⟨.Name y yp, iter, [], 0⟩] scope pos) spos) (sAsg (gN l) (sLc [k] i (gN k) sYes (sKind LT KD (sVar k)))) := ⟨fun pins s σ H D I ⟨x0, r, m, R, q⟩ => by
  have h : rd (PV (pw := pwOf X)) w (sLc [k] i (gN k) sYes (sKind LT KD (sVar k))) σ H fun v H1 => L2.gName l v σ H1 D.nx := by
    refine rd_bindS R q fun d m1 v y H1 R1 p1 st1 q1 => ?_
    obtain ⟨z, R', e1, e2, e3, e4⟩ := R1.putV l p1
    exact FinS.shift (.same e1 e2 e3 fun b hb => .inl (e4 b hb)) q1 _ z H1 R' .refl
  exact lc_outSet hc hN hz hzl hsw I hi ok (fun s H C cl fp => dg_name (X := X.blk s H scope (compEnvC scope cl C X.env) fp) hN hk (.inl (hl2 s H C cl fp)) (.inr (hl2 s H C cl fp))) (fun σ H Q ⟨x, r, m, R, q⟩ => q true x H R rfl .refl)
    (fun sb Hb Cb cl fp Ib hfp => kind_elt (w := w) ht KI hL hr hk hjs hdb hdy hcy (hg2 sb Hb Cb cl fp) (hv2 sb Hb Cb cl fp) (hst sb Hb Cb cl fp) Ib hfp) hs (kind_tlc (w := w) (lc_rd (pw := pwOf X) (g := gN k) (ws := [k]) (vs := [k]) (by simp) σ H _ h))⟩
end
end
end Dl
set_option autoImplicit true
/-! The data layer: evaluating what has been printed. -/
namespace Dl
open PySem PySem.Spec PyProof.Rows L2 TL

section
variable {r : Env} {m : Sto} {i j k l : Nat} {f g h : SE} {t u : SB} {a b : SS} {gl : SL}
@[simp] theorem ev_var : sVar i r m = (match r[i]? with | some (some (.val d)) => .ok d m | _ => .bad) := rfl
@[simp] theorem ev_pk : sPk i r m = (match r[i]? with | some (some (.val d)) => .ok d m | some (some (.lst l)) => .ok (.lst l) m | some (some (.dct ks vs)) => .ok (.own ks vs) m | _ => .bad) := rfl
@[simp] theorem ev_c {d : D} : sC d r m = .ok d m := rfl
@[simp] theorem ev_bin {o : D → D → Sto → R D} : sBin o f g r m = bindR (f r m) fun x m1 => bindR (g r m1) fun y m2 => o x y m2 := rfl
@[simp] theorem ev_B : sB f r m = bindR (f r m) fun d m => match d with | .bl b => .ok b m | _ => .bad := rfl
@[simp] theorem ev_And : sAnd t u r m = bindR (t r m) fun b m => if b = true then u r m else .ok false m := rfl
@[simp] theorem ev_Or : sOr t u r m = bindR (t r m) fun b m => if b = true then .ok true m else u r m := rfl
@[simp] theorem ev_Not : sNot t r m = bindR (t r m) fun b m => .ok (!b) m := rfl
@[simp] theorem ev_AndV : sAndV f g r m = bindR (sB f r m) fun b m => if b = true then g r m else .ok (.bl false) m := rfl
@[simp] theorem ev_OrV : sOrV f g r m = bindR (sB f r m) fun b m => if b = true then .ok (.bl true) m else g r m := rfl
@[simp] theorem ev_NotV : sNotV f r m = bindR (sB f r m) fun b m => .ok (.bl (!b)) m := rfl
@[simp] theorem ev_If : sIf t f g r m = bindR (t r m) fun b m => if b = true then f r m else g r m := rfl
@[simp] theorem ev_Chain {o p : D → D → Sto → R D} : sChain o p f g h r m = bindR (f r m) fun x m => bindR (g r m) fun y m => bindR (o x y m) fun k m => match k with
  | .bl true => bindR (h r m) fun z m => p y z m
  | .bl false => .ok (.bl false) m
  | _ => .bad := rfl
@[simp] theorem ev_Neg : sNeg f r m = bindR (f r m) fun d m => match d with | .int i => .ok (.int (-i)) m | _ => .bad := rfl
@[simp] theorem ev_nil : aNil r m = .ok [] m := rfl
@[simp] theorem ev_cons : aCons f gl r m = bindR (f r m) fun d m => bindR (gl r m) fun ds m => .ok (d :: ds) m := rfl
@[simp] theorem ev_tup : sTup gl r m = bindR (gl r m) fun ds m => if ds.length ≤ LIM then .ok (.tup ds) m else .bad := rfl
@[simp] theorem ev_lst : sLst gl r m = bindR (gl r m) fun ds m => if ds.length ≤ LIM then .ok (.lst ds) m else .bad := rfl
@[simp] theorem ev_oNone : oNone r m = .ok none m := rfl
@[simp] theorem ev_oSome : oSome f r m = bindR (f r m) fun d m => match d with | .int i => .ok (some i) m | _ => .bad := rfl
@[simp] theorem ev_sl {lo hi : SO} : sSl f lo hi r m = bindR (f r m) fun d m => bindR (lo r m) fun l m => bindR (hi r m) fun u m => opSl d l u m := rfl
@[simp] theorem ev_call {φ : Fd} : sCall φ gl r m = bindR (gl r m) fun ds m => φ ds m := rfl
@[simp] theorem ev_callF {n : Nat} {φ : Fd} {ds : List D} : callF n φ ds m = if ds.length = n then φ ds m else .bad := rfl
@[simp] theorem ev_meth {T : String} {o : D → List D → Sto → R D} : sMeth T o f gl r m = bindR (f r m) fun d m => if kD d = T then bindR (gl r m) fun ds m => o d ds m else .bad := rfl
@[simp] theorem kD_str {z : List Nat} : kD (.str z) = "str" := rfl
@[simp] theorem add_int {i j : Int} : opAdd (.int i) (.int j) m = .ok (.int (i + j)) m := rfl
@[simp] theorem add_str {x y : List Nat} : opAdd (.str x) (.str y) m = if x.length + y.length ≤ LIM then .ok (.str (x ++ y)) m else .bad := rfl
@[simp] theorem add_lst {x y : List D} : opAdd (.lst x) (.lst y) m = if x.length + y.length ≤ LIM then .ok (.lst (x ++ y)) m else .bad := rfl
@[simp] theorem add_tup {x y : List D} : opAdd (.tup x) (.tup y) m = if x.length + y.length ≤ LIM then .ok (.tup (x ++ y)) m else .bad := rfl
@[simp] theorem sub_int {i j : Int} : opSub (.int i) (.int j) m = .ok (.int (i - j)) m := rfl
@[simp] theorem mod_int {i j : Int} : opMod (.int i) (.int j) m = if 0 < j then .ok (.int (i % j)) m else .bad := rfl
@[simp] theorem div_int {i j : Int} : opDiv (.int i) (.int j) m = if 0 < j ∧ j < 18446744073709551616 then .ok (.int (i / j)) m else .bad := rfl
@[simp] theorem lt_int {i j : Int} : opLt (.int i) (.int j) m = .ok (.bl (decide (i < j))) m := rfl
@[simp] theorem le_int {i j : Int} : opLe (.int i) (.int j) m = .ok (.bl (decide (i ≤ j))) m := rfl
@[simp] theorem gt_int {i j : Int} : opGt (.int i) (.int j) m = .ok (.bl (decide (j < i))) m := rfl
@[simp] theorem ge_int {i j : Int} : opGe (.int i) (.int j) m = .ok (.bl (decide (j ≤ i))) m := rfl
@[simp] theorem ev_eq {a b : D} : opEq a b m = if okN 60 a = true ∧ okN 60 b = true then .ok (.bl (eqD a b)) m else .bad := rfl
@[simp] theorem ev_ne {a b : D} : opNe a b m = if okN 60 a = true ∧ okN 60 b = true then .ok (.bl (!eqD a b)) m else .bad := rfl
@[simp] theorem ev_in {a b : D} : opIn a b m = ofO ((inD a b).map D.bl) m := rfl
@[simp] theorem ev_nin {a b : D} : opNin a b m = ofO ((inD a b).map fun k => D.bl (!k)) m := rfl
@[simp] theorem in_str {c : Nat} {z : List Nat} : inD (.str [c]) (.str z) = some (decide (c ∈ z)) := rfl
@[simp] theorem is_non {a : D} : opIs a .non m = ofO ((isNonD a).map D.bl) m := rfl
@[simp] theorem isn_non {a : D} : opIsn a .non m = ofO ((isNonD a).map fun k => D.bl (!k)) m := rfl
@[simp] theorem isNon_non : isNonD .non = some true := rfl
@[simp] theorem isNon_tup {l : List D} : isNonD (.tup l) = some false := rfl
@[simp] theorem isNon_lst {l : List D} : isNonD (.lst l) = some false := rfl
@[simp] theorem isNon_int {l : Int} : isNonD (.int l) = some false := rfl
@[simp] theorem isNon_str {l : List Nat} : isNonD (.str l) = some false := rfl
@[simp] theorem ev_ix {a b : D} : opIx a b m = ofO (ixD a b) m := rfl
@[simp] theorem ix_l {l : List D} {i : Int} : ixD (.lst l) (.int i) = atI l i := rfl
@[simp] theorem ix_t {l : List D} {i : Int} : ixD (.tup l) (.int i) = atI l i := rfl
@[simp] theorem sl_l {l : List D} {lo hi : Option Int} : opSl (.lst l) lo hi m = .ok (.lst (cutL l lo hi)) m := rfl
@[simp] theorem sl_t {l : List D} {lo hi : Option Int} : opSl (.tup l) lo hi m = .ok (.tup (cutL l lo hi)) m := rfl
@[simp] theorem len_str {z : List Nat} : fLen [.str z] m = if z.length ≤ LIM then .ok (.int z.length) m else .bad := rfl
@[simp] theorem len_lst {l : List D} : fLen [.lst l] m = .ok (.int l.length) m := rfl
@[simp] theorem len_tup {l : List D} : fLen [.tup l] m = .ok (.int l.length) m := rfl
@[simp] theorem max_int {i j : Int} : fMax [.int i, .int j] m = .ok (.int (max i j)) m := rfl
@[simp] theorem min_int {i j : Int} : fMin [.int i, .int j] m = .ok (.int (min i j)) m := rfl
@[simp] theorem int_int {i : Int} : fInt [.int i] m = .ok (.int i) m := rfl
@[simp] theorem int_bl {b : Bool} : fInt [.bl b] m = .ok (.int (if b then 1 else 0)) m := rfl
@[simp] theorem text_str {z : List Nat} : fText [.str z] m = .ok (.str z) m := rfl
@[simp] theorem tuple_l {l : List D} : fTuple [.lst l] m = .ok (.tup l) m := rfl
@[simp] theorem tuple_t {l : List D} : fTuple [.tup l] m = .ok (.tup l) m := rfl
@[simp] theorem list_l {l : List D} : fList [.lst l] m = .ok (.lst l) m := rfl
@[simp] theorem list_t {l : List D} : fList [.tup l] m = .ok (.lst l) m := rfl
@[simp] theorem ev_skip : sSkip r m = .nx r m := rfl
@[simp] theorem ev_seq : sSeq a b r m = (match a r m with | .nx r m => b r m | o => o) := rfl
@[simp] theorem ev_forget : sForget i b r m = b (r.set i none) m := rfl
@[simp] theorem ev_freeze : sFreeze i b r m = (match r[i]? with | some (some (.lst l)) => b (r.set i (some (.val (.lst l)))) m | some (some (.dct ks vs)) => b (r.set i (some (.val (.dct ks vs)))) m | _ => .bad) := rfl
@[simp] theorem ev_ret : sRet f r m = bindS r (f r m) fun d m => .rt d m := rfl
@[simp] theorem ev_expr : sExpr f r m = bindS r (f r m) fun _ m => .nx r m := rfl
@[simp] theorem ev_ifS : sIfS t a b r m = bindS r (t r m) fun c m => if c = true then a r m else b r m := rfl
@[simp] theorem ev_cV : cV f r m = bindR (f r m) fun d m => .ok (.val d) m := rfl
@[simp] theorem ev_cL : cL gl r m = bindR (gl r m) fun ds m => if ds.length ≤ LIM then .ok (.lst ds) m else .bad := rfl
@[simp] theorem ev_set {f : SCe} : sSet i f r m = bindS r (f r m) fun c m => .nx (r.set i (some c)) m := rfl
@[simp] theorem ev_par {f g : SCe} : sPar i j f g r m = bindS r (f r m) fun c m => bindS r (g r m) fun d m => .nx ((r.set i (some c)).set j (some d)) m := rfl
@[simp] theorem ev_par3 {f g h : SCe} : sPar3 i j l f g h r m = bindS r (f r m) fun c m => bindS r (g r m) fun d m => bindS r (h r m) fun k m => .nx (((r.set i (some c)).set j (some d)).set l (some k)) m := rfl
@[simp] theorem ev_asg {G : Gm} : sAsg G f r m = bindS r (f r m) fun d m => match G d r with | some r' => .nx r' m | none => .bad := rfl
@[simp] theorem ev_gN {d : D} : gN i d r = some (r.set i (some (.val d))) := rfl
@[simp] theorem ev_gTup {F : Gms} {l : List D} : gTup F (.tup l) r = F l r := rfl
@[simp] theorem ev_gsNil : gsNil [] r = some r := rfl
@[simp] theorem ev_gsCons {F : Gm} {G : Gms} {d : D} {l : List D} : gsCons F G (d :: l) r = (F d r).bind (G l) := rfl
@[simp] theorem ev_app : sApp i f r m = (match r[i]? with | some (some (.lst l)) => bindS r (f r m) fun d m => if l.length < LIM then .nx (r.set i (some (.lst (l ++ [d])))) m else .bad | _ => .bad) := rfl
@[simp] theorem ev_for {I : SL} {G : Gm} : sFor I G b r m = bindS r (I r m) fun l m => forL G b l r m := rfl
@[simp] theorem ev_It : sIt f r m = bindR (f r m) fun d m => ofO (itD d) m := rfl
@[simp] theorem itD_l {l : List D} : itD (.lst l) = some l := rfl
@[simp] theorem itD_t {l : List D} : itD (.tup l) = some l := rfl
@[simp] theorem itD_s {z : List Nat} : itD (.str z) = some (z.map fun c => .str [c]) := rfl
@[simp] theorem ev_En {d : D} (hg : gl r m = .ok [d] m) : sEn gl r m = (match itD d with | some l => .ok (enumL 0 l) m | _ => .bad) := by
  unfold sEn
  rw [hg]
  rfl
@[simp] theorem ev_Rg {i : Int} {m' : Sto} (hg : gl r m = .ok [.int i] m') : sRg gl r m = if inR i = true then .ok (rangeL 0 i.toNat) m' else .bad := by
  unfold sRg
  rw [hg]
  rfl
@[simp] theorem ev_Lc {vs : List Nat} {I : SL} {G : Gm} : sLc vs I G t f r m = bindR (I r m) fun ds m => if ds.length ≤ LIM ∧ vs.all (bare r) = true then bindR (lcL G t f (wipeE r vs) ds m) fun l m => .ok (.lst l) m else .bad := rfl
@[simp] theorem ev_yes : sYes r m = .ok true m := rfl
@[simp] theorem bindN_ok {α β : Type} {a : α} {F : α → Sto → R β} : bindN (.ok a m) F = F a m := rfl
@[simp] theorem ofFl_nx : ofFl (.nx r m) = .ok .non m := rfl
@[simp] theorem ofFl_rt {d : D} : ofFl (.rt d m) = .ok d m := rfl
@[simp] theorem bare_none {r : Env} : bare (none :: r) 0 = true := rfl
@[simp] theorem bare_val {r : Env} {d : D} : bare (some (.val d) :: r) 0 = true := rfl
@[simp] theorem bare_succ {r : Env} {c : Option Cell} {i : Nat} : bare (c :: r) (i + 1) = bare r i := by simp [bare]
@[simp] theorem wipeE_nil : wipeE r [] = r := rfl
@[simp] theorem wipeE_cons {v : Nat} {vs : List Nat} : wipeE r (v :: vs) = (wipeE r vs).set v none := rfl
@[simp] theorem atI_zero {α : Type} {x : α} {l : List α} : atI (x :: l) 0 = some x := by
  simp [atI, ixN]
end
/-! ### loops and comprehensions by what each turn does -/
theorem forL_nil {g : Gm} {b : SS} {r : Env} {m : Sto} : forL g b [] r m = .nx r m := rfl
/-- a turn that goes on -/
theorem forL_step {g : Gm} {b : SS} {d : D} {l : List D} {r r' r2 : Env} {m m2 : Sto} (h1 : g d r = some r') (h2 : b r' m = .nx r2 m2) : forL g b (d :: l) r m = forL g b l r2 m2 := by
  show (match g d r with | some r' => (match b r' m with | .nx r m => forL g b l r m | .ct r m => forL g b l r m | .bk r m => .nx r m | .rt d m => .rt d m | .exc c v r m => .exc c v r m | .bad => .bad) | none => .bad) = _
  rw [h1]
  dsimp only
  rw [h2]
/-- a loop whose turns all go on, by a state of one's own -/
theorem forL_inv {g : Gm} {b : SS} (I : Nat → Env → Sto → Prop) : ∀ (l : List D) (n : Nat) (r : Env) (m : Sto), I n r m →
    (∀ (k : Nat) (d : D) (r : Env) (m : Sto), l[k]? = some d → I (n + k) r m → ∃ r' r2 m2, g d r = some r' ∧ b r' m = .nx r2 m2 ∧ I (n + k + 1) r2 m2) → ∃ r2 m2, forL g b l r m = .nx r2 m2 ∧ I (n + l.length) r2 m2
  | [], n, r, m, h, _ => ⟨r, m, rfl, h⟩
  | d :: l, n, r, m, h, hs => by
    obtain ⟨r', r2, m2, h1, h2, h3⟩ := hs 0 d r m rfl h
    obtain ⟨r3, m3, e, i3⟩ := forL_inv I l (n + 1) r2 m2 h3 fun k d r m hk hi => by
      have e1 : n + 1 + k = n + (k + 1) := by omega
      rw [e1] at hi ⊢
      exact hs (k + 1) d r m (by simpa using hk) hi
    refine ⟨r3, m3, by rw [forL_step h1 h2, e], ?_⟩
    have e2 : n + 1 + l.length = n + (d :: l).length := by simp; omega
    rw [e2] at i3
    exact i3
/-- a loop that leaves all as it was -/
theorem forL_same {g : Gm} {b : SS} {l : List D} {r : Env} {m : Sto} (h : ∀ (k : Nat) (d : D), l[k]? = some d → ∃ r', g d r = some r' ∧ b r' m = .nx r m) : forL g b l r m = .nx r m := by
  obtain ⟨r2, m2, e, e1, e2⟩ := forL_inv (g := g) (b := b) (fun _ r' m' => r' = r ∧ m' = m) l 0 r m ⟨rfl, rfl⟩ fun k d r' m' hk ⟨e1, e2⟩ => by
    subst e1 e2
    obtain ⟨r2, h1, h2⟩ := h k d hk
    exact ⟨r2, r', m', h1, h2, rfl, rfl⟩
  rw [e, e1, e2]
/-- a comprehension without a draw -/
theorem lcL_map {g : Gm} {t : SB} {f : SE} {r0 : Env} {m : Sto} (φ : D → D) : ∀ (l : List D), (∀ d ∈ l, ∃ r', g d r0 = some r' ∧ t r' m = .ok true m ∧ f r' m = .ok (φ d) m) → lcL g t f r0 l m = .ok (l.map φ) m
  | [], _ => rfl
  | d :: l, h => by
    obtain ⟨r', h1, h2, h3⟩ := h d (List.mem_cons_self ..)
    have ih := lcL_map φ l fun d hd => h d (List.mem_cons_of_mem _ hd)
    unfold lcL
    rw [h1]
    simp [h2, h3, ih]
/-- by the place -/
theorem lcL_mapI {g : Gm} {t : SB} {f : SE} {r0 : Env} {m : Sto} : ∀ (l ys : List D), l.length = ys.length → (∀ (k : Nat) (d y : D), l[k]? = some d → ys[k]? = some y → ∃ r', g d r0 = some r' ∧ t r' m = .ok true m ∧ f r' m = .ok y m) → lcL g t f r0 l m = .ok ys m
  | [], [], _, _ => rfl
  | d :: l, y :: ys, hl, h => by
    obtain ⟨r', h1, h2, h3⟩ := h 0 d y rfl rfl
    have ih := lcL_mapI l ys (by simpa using hl) fun k d y hd hy => h (k + 1) d y (by simpa using hd) (by simpa using hy)
    unfold lcL
    rw [h1]
    simp [h2, h3, ih]
theorem lcL_filter {g : Gm} {t : SB} {f : SE} {r0 : Env} {m : Sto} (p : D → Bool) (φ : D → D) : ∀ (l : List D), (∀ d ∈ l, ∃ r', g d r0 = some r' ∧ t r' m = .ok (p d) m ∧ (p d = true → f r' m = .ok (φ d) m)) → lcL g t f r0 l m = .ok ((l.filter p).map φ) m
  | [], _ => rfl
  | d :: l, h => by
    obtain ⟨r', h1, h2, h3⟩ := h d (List.mem_cons_self ..)
    have ih := lcL_filter p φ l fun d hd => h d (List.mem_cons_of_mem _ hd)
    unfold lcL
    rw [h1]
    by_cases hp : p d = true
    · simp [h2, h3 hp, ih, hp]
    · simp [h2, ih, hp]
/-- with draws: each item is what P says -/
theorem lcL_draw {g : Gm} {t : SB} {f : SE} {r0 : Env} (G : Sto → Prop) (P : D → D → Prop) : ∀ (l : List D) (m : Sto), G m → (∀ d ∈ l, ∀ m, G m → ∃ r' y m', g d r0 = some r' ∧ t r' m = .ok true m ∧ f r' m = .ok y m' ∧ P d y ∧ G m') →
    ∃ ys m', lcL g t f r0 l m = .ok ys m' ∧ ys.length = l.length ∧ (∀ (k : Nat) (d y : D), l[k]? = some d → ys[k]? = some y → P d y) ∧ G m'
  | [], m, hm, _ => ⟨[], m, rfl, rfl, fun k d y h => by simp at h, hm⟩
  | d :: l, m, hm, h => by
    obtain ⟨r', y, m', h1, h2, h3, h4, h5⟩ := h d (List.mem_cons_self ..) m hm
    obtain ⟨ys, m2, e, el, hp, hg⟩ := lcL_draw G P l m' h5 fun d hd => h d (List.mem_cons_of_mem _ hd)
    refine ⟨y :: ys, m2, ?_, by simp [el], fun k d' y' e1 e2 => ?_, hg⟩
    · unfold lcL
      rw [h1]
      simp [h2, h3, e]
    · cases k with
      | zero => simp at e1 e2; subst e1 e2; exact h4
      | succ k => exact hp k d' y' (by simpa using e1) (by simpa using e2)
/-- with a draw in the test: some of the items -/
theorem lcL_some {g : Gm} {t : SB} {f : SE} {r0 : Env} (G : Sto → Prop) : ∀ (l : List D) (m : Sto), G m → (∀ d ∈ l, ∀ m, G m → ∃ r' b m', g d r0 = some r' ∧ t r' m = .ok b m' ∧ G m' ∧ f r' m' = .ok d m') →
    ∃ ys m', lcL g t f r0 l m = .ok ys m' ∧ ys.Sublist l ∧ G m'
  | [], m, hm, _ => ⟨[], m, rfl, .slnil, hm⟩
  | d :: l, m, hm, h => by
    obtain ⟨r', b, m', h1, h2, h3, h4⟩ := h d (List.mem_cons_self ..) m hm
    obtain ⟨ys, m2, e, sl, hg⟩ := lcL_some G l m' h3 fun d hd => h d (List.mem_cons_of_mem _ hd)
    cases b with
    | true =>
      refine ⟨d :: ys, m2, ?_, sl.cons₂ d, hg⟩
      unfold lcL
      rw [h1]
      simp [h2, h4, e]
    | false =>
      refine ⟨ys, m2, ?_, sl.cons d, hg⟩
      unfold lcL
      rw [h1]
      simp [h2, e]
/-! ### the draws -/
/-- the draws' object stands at 0 -/
def Good (ρ : Sto) (m : Sto) : Prop := ∃ s cs p, m = .drw s cs p :: ρ ∧ 0 ≤ p ∧ cs.length ≤ 63
theorem draw {ρ m : Sto} (h : Good ρ m) {k : Int} (h0 : 0 < k) (h1 : k < 18446744073709551616) : ∃ v m', fNext [.obj 0, .int k] m = .ok (.int v) m' ∧ 0 ≤ v ∧ v < k ∧ Good ρ m' := by
  obtain ⟨s, cs, p, rfl, hp, hc⟩ := h
  have hl : cs.length < LIM := Nat.lt_of_le_of_lt hc (by decide)
  have e : fNext [.obj 0, .int k] (.drw s cs p :: ρ) = .ok (.int (nextD s cs p k).1) ((nextD s cs p k).2 :: ρ) := if_pos ⟨h0, h1, hp, hl⟩
  refine ⟨_, _, e, ?_, ?_, ?_⟩
  · unfold nextD
    dsimp only
    split <;> exact Int.emod_nonneg _ (by omega)
  · unfold nextD
    dsimp only
    split <;> exact Int.emod_lt_of_pos _ h0
  · unfold nextD
    dsimp only
    split
    · exact ⟨_, _, _, rfl, hp, by simpa using hc⟩
    · exact ⟨_, _, _, rfl, by omega, hc⟩
theorem good_start {ρ : Sto} {ns : List Int} {s : Int} (h : ns.length ≤ 63) : Good ρ (.drw s ns 0 :: ρ) := ⟨s, ns, 0, rfl, Int.le_refl 0, h⟩
end Dl
set_option autoImplicit true
/-! An own exception class over ValueError, its own __init__ called with a keyword. -/
namespace PySem.HandSPX.KwX
open Builtin Builtin.ObjectAttr
section
variable {M : Model} {A : Around} {E : Value → Shared → Prop} {hp : Heap} {gs : Array GenState} {dr : Drawn} {tk : Nat} {os : OsState}
variable {nm q : Str} {C N : Addr} {bs bm : List Value} {hdct : Bool} {sn : List Str} {sub : List Value} {ab : Bool} {col : Option Bool} {dd : Option Addr} {k0 k1 k2 k3 k5 : Option Value} {kws : List (Str × Value)}
theorem new_checked {Q : Unit → Shared → Prop} (hm : refsVE bm = true) (hk : hp.get? C = some (excClassObj nm q C N bs bm hdct sn sub ab col dd k0 k1 k2 k3 k5 "ValueError.__new__")) (hq : Q () ⟨hp, gs, dr, tk, os⟩) :
    wpAny M A (checkBuiltinCall "ValueError.__new__" ⟨[.ref C], kws⟩) Q E ⟨hp, gs, dr, tk, os⟩ := by
  have Fb := F.excBase_ValueError
  have has : (Value.ref C :: bm).contains (.type "ValueError") = true := by rw [List.contains_cons, refsVE_contains _ _ hm]; rfl
  have star := Fb.noStar
  simp only [checkBuiltinCall, Fb.newKind, Fb.newSplit, Fb.newRow]
  repeat (first | refine wpAny_loadPart_at hk ?_ | (refine wpAny_isSubtype_exc hk ?_; rw [has]) | refine wpAny_staticBase_exc hk ?_ | refine wpAny_madeBy_exc hk ?_ | simp only [bne_self_eq_false, Bool.false_eq_true, if_false] | wp_step)
  exact hq
end
section
variable {prog : Program} {w : World} {A : Around} {E : Value → Shared → Prop} {R : Result → Shared → Prop} {hp : Heap} {gs : Array GenState} {dr : Drawn} {tk : Nat} {os : OsState}
variable {nm q : Str} {C N : Addr} {bs bm : List Value} {hdct : Bool} {sn : List Str} {sub : List Value} {ab : Bool} {col : Option Bool} {dd : Option Addr} {k0 k1 k2 k3 k5 : Option Value} {kws : List (Str × Value)}
theorem new_made (hm : refsVE bm = true) (hk : hp.get? C = some (excClassObj nm q C N bs bm hdct sn sub ab col dd k0 k1 k2 k3 k5 "ValueError.__new__"))
    (hq : R (.ok (.ret (.ref (hp.objs.size + 1)))) ⟨(hp.push (W.kdv_tup [])).push (excO C hp.objs.size), gs, dr, tk, os⟩) :
    codeAny (model prog w) A (.builtin "ValueError.__new__" ⟨[.ref C], kws⟩) R ⟨hp, gs, dr, tk, os⟩ := by
  have Fb := F.excBase_ValueError
  have ends := Fb.ends
  have has : (Value.ref C :: bm).contains (.type "ValueError") = true := by rw [List.contains_cons, refsVE_contains _ _ hm]; rfl
  have na : (Value.ref C :: bm).contains (.type "AttributeError") = false := by rw [List.contains_cons, refsVE_contains _ _ hm]; rfl
  have nn : (Value.ref C :: bm).contains (.type "NameError") = false := by rw [List.contains_cons, refsVE_contains _ _ hm]; rfl
  refine codeAny_builtinAt Fb.entry ?_
  unfold Builtin.«BaseException.__new__»
  refine wpAt_bind ?_
  show wpAt _ _ _ (stack >>= _) _ _ _
  refine wpAt_bind (wpAt_stack fun p below => wpAt_of_wpAny ?_)
  wp_walk
  refine wpAt_of_wpAny ?_
  rw [Fb.owner]
  repeat (first | with_reducible refine wpAny_madeHere_exc Fb.canon hk ?_ | with_reducible refine wpAny_loadPart_at hk ?_ | (with_reducible refine wpAny_isSubtype_exc hk ?_; first | rw [has] | rw [na] | rw [nn]) | wp_step)
  show R _ _
  rw [Heap.size_push]
  exact hq
theorem type_called {fI : Addr} {Q : Fin → Shared → Prop} (hm : refsVE bm = true) (hk : hp.get? C = some (excClassObj nm q C N bs bm hdct sn sub ab col dd k0 k1 k2 k3 k5 "ValueError.__new__"))
    (hi : W.Looks (model prog w) hp (typeLookup (.ref C) "__init__") (some (.ref fI))) (hb : ∀ self, W.Looks (model prog w) hp (bindSpecial (.ref fI) self) (.ref fI, [self]))
    (hq : codeAny (model prog w) A (.call (.ref fI) ⟨[.ref (hp.objs.size + 1)], kws⟩)
      (fun r s' => match r with | .ok (.ret v) => v = .none ∧ Q (.done (.ret (.ref (hp.objs.size + 1)))) s' | .ok _ => False | .error e => E e s')
      ⟨(hp.push (W.kdv_tup [])).push (excO C hp.objs.size), gs, dr, tk, os⟩) :
    wpAny (model prog w) A (Builtin.«type.__call__» ⟨[.ref C], kws⟩) Q E ⟨hp, gs, dr, tk, os⟩ := by
  have Fb := F.excBase_ValueError
  repeat (first | with_reducible refine wpAny_loadPart_at hk ?_ | with_reducible refine wpAny_madeBy_exc hk ?_ | wp_step)
  refine codeAny_call_builtin_code (Code.quiet_builtin _ Fb.quiet) (new_checked hm hk ?_)
  refine new_made hm hk ?_
  show wpAny _ _ _ _ _ _
  have k : ∀ b o, hp.get? b = some o → ((hp.push (W.kdv_tup [])).push (excO C hp.objs.size)).get? b = some o := fun b o e => Heap.get?_push_of_some _ (Heap.get?_push_of_some _ e)
  have hk1 := k _ _ hk
  have hget : ((hp.push (W.kdv_tup [])).push (excO C hp.objs.size)).get? (hp.objs.size + 1) = some (excO C hp.objs.size) := by heap_get
  have self : (Value.ref C :: bm).contains (.ref C) = true := by simp
  have i1 := hi.keeps k
  have b1 := (hb (.ref (hp.objs.size + 1))).keeps k
  unfold isInstance
  repeat (first | with_reducible refine wpAny_loadPart_at hget ?_ | (with_reducible refine wpAny_isSubtype_exc hk1 ?_; rw [self]) | wp_step)
  show wpAny _ _ (typeLookup (.ref C) _) _ _ _
  refine i1.at ?_
  refine wpAny_holding (wpAny_bind (b1.at ?_))
  refine wpAny_bind (wpAny_call (codeAny_mono hq fun r s' z => ?_))
  rcases r with e | (v | _ | _ | _) <;> first | exact z | exact z.elim | skip
  obtain ⟨rfl, z⟩ := z
  first
    | exact wpAny_pure (wpAny_pure z)
    | (wp_walk; exact z)
theorem call_made {fI : Addr} (hm : refsVE bm = true) (hk : hp.get? C = some (excClassObj nm q C N bs bm hdct sn sub ab col dd k0 k1 k2 k3 k5 "ValueError.__new__"))
    (hi : W.Looks (model prog w) hp (typeLookup (.ref C) "__init__") (some (.ref fI))) (hb : ∀ self, W.Looks (model prog w) hp (bindSpecial (.ref fI) self) (.ref fI, [self]))
    (hq : codeAny (model prog w) (A.under (.builtin "type.__call__" ⟨[.ref C], kws⟩)) (.call (.ref fI) ⟨[.ref (hp.objs.size + 1)], kws⟩) (W.InitBack (hp.objs.size + 1) R)
      ⟨(hp.push (W.kdv_tup [])).push (excO C hp.objs.size), gs, dr, tk, os⟩) :
    codeAny (model prog w) A (.call (.ref C) ⟨[], kws⟩) R ⟨hp, gs, dr, tk, os⟩ := by
  have f1 := tc_lookup
  have f2 := tc_bind (.ref C)
  have ty : (⟨hp, gs, dr, tk, os⟩ : Shared).TypeIs (.ref C) "type" := ⟨_, hk, rfl⟩
  refine codeAny_of_tree ?_
  show wpAny _ _ (callAny (.ref C) _) _ _ _
  repeat (any_goals (first | assumption | with_reducible refine wpAny_loadPart_at hk ?_ | wp_step))
  refine ⟨rfl, ?_⟩
  refine codeAny_call_builtin_at (Code.quiet_builtin _ (by decide +kernel)) entry_typeCall (wpAny_check_type_call_sub hk (type_called hm hk hi hb ?_))
  refine codeAny_mono hq fun r s' z => ?_
  rcases r with e | (v | _ | _ | _) <;> exact z
end
end PySem.HandSPX.KwX
set_option autoImplicit true
/-! An own error with a field: its base's __init__, its own __init__, its making; isinstance of a held one that has a dict. -/
namespace Dl.KwX
open PySem PySem.Spec PyProof.Rows L2 PySem.HandSPX.KwX
/-- an own class over ValueError without own __init__: what its __init__ is -/
structure BaseC (K : PySem.W.Frag) (mg : Str → Option Value) (x : Str) (R : Addr) : Prop where
  g : mg x = some (.ref R)
  rd : ClX.CRead K R (.type "type")
  fi : PySem.W.findCls K (.ref R) (.type "type") "__init__" = some (.val (.builtin "ValueError.__init__"))
section
variable {X : Cx} {x : Str} {R : Addr} {e : Expr} {es : List Expr} {ta : TA} {p1 p2 pos : Pos}
theorem pe_baseInit {pl : Sem Bool} (B : BaseC X.K X.mg x R) (hg : Gl X x) (ha : PA X (e :: es) ta) (hdb : (x == ("__debug__" : Str)) = false := by decide)
    (hc : eval (.Call (.Attribute (.Name x p1) "__init__" p2) (e :: es) [] pos) X.env = (do
      let ov ← eval (.Name x p1) X.env
      standAt p2.atName
      let (f, first) ← holding [ov] (getMethod ov "__init__" pl)
      callWith pos f first (backTo pos (starEach (e :: es) X.env)) (backToKw pos (keywordEach [] X.env))) := by rfl)
    (he : starEach (e :: es) X.env = (false, eval e X.env) :: starEach es X.env := by rfl) (hpl : (backTo pos (starEach es X.env)).any (·.1) = false := by rfl) :
    PE X (.Call (.Attribute (.Name x p1) "__init__" p2) (e :: es) [] pos) (tVeI X.K ta) := by
  refine ⟨fun pins s σ H Q I h => ?_⟩
  refine PySem.W.methodCall_KW (ld_glob I hg B.g ?_ hdb) hc
  refine PySem.W.method_cls I.kIn B.rd.ga (PySem.W.cls_value I.kIn B.rd.rd B.fi (by rfl) ?_)
  show wpAny _ _ (callWith pos (Value.builtin "ValueError.__init__") [] (backTo pos (starEach (e :: es) X.env)) []) _ _ _
  refine PyProof.Rows.callWith_method1 (thn (ha.run pos pins _ σ H _ (I.tok _) h) fun us s1 ⟨vs, H1, I1, r1, a, C, ws, ev, hl, T, ea, q⟩ => ?_) he hpl
  subst ev
  cases r1 with
  | @cons _ u0 _ ur ra rw' =>
    obtain rfl : u0 = Value.ref a := ra
    have small : ur.length ≤ sizeLine := by
      rw [← Paired.length rw', sizeLine_eq]
      omega
    exact oinit_ok T I1 ea small fun s' J => ⟨.non, H1, J, rfl, q⟩
end
/-- what the own __init__(self, *, f) keeps -/
def spInit (C : Addr) (f : Str) : Sp := fun vs H Q E => ∃ (a : Addr) (v : V), vs = [.ref a, v] ∧ H a = some (exo a C none) ∧ ∀ (dx : Addr) (H' : Hp), H dx = none → dx ≠ a → H' = upd (upd H dx (exd dx [(f, v)])) a (exo a C (some dx)) → Q .non H'
/-- the reading of its body, from the start -/
theorem init_start {K : PySem.W.Frag} {C : Addr} {f : Str} {N : List Str} {vs : List V} {H : Hp} {Q : VK} {E : XK} (T : OexC K C) (hno : PySem.W.findIn K (.ref C) f = some none) (hN : N.length = 2) (h : spInit C f vs H Q E) :
    tSeq (tDrop (tVeI K (tCons (tVar 0) (tCons (tVar 1) tNil)))) (tOst K f (tVar 0) (tVar 1)) { nx := fun _ H' => Q .non H', rt := Q } (L2.start N vs) H := by
  obtain ⟨a, v, rfl, ha, q⟩ := h
  have e0 : L2.start N [.ref a, v] = [some (.ref a), some v] := by
    unfold L2.start
    rw [hN]
    rfl
  rw [e0]
  exact ⟨.ref a, rfl, v, rfl, a, C, [v], rfl, by simp, T, ha, v, rfl, .ref a, rfl, a, C, rfl, T, hno, .inl ⟨ha, fun dx n ne => q dx _ n ne rfl⟩⟩
section
variable {X : Cx} {x f : Str} {C fI : Addr} {k : Nat} {fd : FuncData} {ps : List Str} {e : Expr} {te : TE} {p pos kp : Pos}
/-- C(f = e) -/
theorem pmk_kw (T : OexC X.K C) (iC : PySem.W.findIn X.K (.ref C) "__init__" = some (some (.ref fI))) (tI : PySem.W.typeIn X.K (.ref fI) = some (.type "function"))
    (F1 : FnOk X.prog X.w X.K X.mg X.base (L2.CX X.prog X.w) k fI fd ps (spInit C f)) (hr : Room (k + 1) X.A) (hb : ∀ (s : Shared) (u v : Value), BindsTo s fd ⟨[u], [(f, v)]⟩ (ps.zip [u, v]))
    (hg : Gl X x) (hm : X.mg x = some (.ref C)) (he : PE X e te) (hdb : (x == ("__debug__" : Str)) = false := by decide)
    (hall : (backToKw pos (keywordEach [⟨some f, e, kp⟩] X.env)).all (·.1.isSome) = true := by rfl) (hks : (backToKw pos (keywordEach [⟨some f, e, kp⟩] X.env)).filterMap (·.1) = [f] := by rfl)
    (hpl : ((backTo pos (starEach [] X.env)).any (·.1) || (backToKw pos (keywordEach [⟨some f, e, kp⟩] X.env)).any (·.1.isNone)) = false := by rfl) :
    PMk X (.Call (.Name x p) [] [⟨some f, e, kp⟩] pos) (fun σ H Q => te σ H fun v H1 => ∀ d H2, H1 d = none → H2 = upd H1 d (.xd [(f, v)]) → Q (.ref C) (some d) H2) := by
  intro pins s σ H Q I h
  obtain ⟨nm, q, N, bs, bm, sn, sub, ab, col, dd, k0, k1, k2, k3, k5, hC, hbm⟩ := T.cls
  refine wpAny_Call_Name_kw (ld_glob I hg hm ?_ hdb)
  have hk : PK X [⟨some f, e, kp⟩] (tCons te tNil) := pk_cons he pk_nil
  have h0 : tCons te tNil σ H fun vs H1 => match vs with
    | [v] => ∀ d H2, H1 d = none → H2 = upd H1 d (.xd [(f, v)]) → Q (.ref C) (some d) H2
    | _ => False := h
  refine PySem.W.callWith_KW0 (h₀ := X.base) I.ok.mod.kin T.kC hall (thn (hk.run pos pins s σ H _ I h0) fun us s1 ⟨vs, H1, I1, r1, q1⟩ => ⟨I1.kIn, ?_⟩) hpl
  cases vs with
  | nil => exact q1.elim
  | cons v vs =>
  cases vs with
  | cons v2 vs => exact q1.elim
  | nil =>
  rw [hks]
  cases r1 with
  | @cons _ u _ ur ru rn =>
    cases rn
    show wpAny _ _ (call (.ref C) [] [(f, u)]) _ _ _
    obtain ⟨hp, g, dr, tk, os⟩ := s1
    have up : hp.objs.size ≤ hp.objs.size + 1 := Nat.le_succ _
    have hn : H1 (hp.objs.size + 1) = none := I1.hok.fresh up
    have kk : ∀ b o, hp.get? b = some o → ((hp.push (PySem.W.kdv_tup [])).push (PySem.HandSPX.excO C hp.objs.size)).get? b = some o := fun b o e => Heap.get?_push_of_some _ (Heap.get?_push_of_some _ e)
    have hget : ((hp.push (PySem.W.kdv_tup [])).push (PySem.HandSPX.excO C hp.objs.size)).get? (hp.objs.size + 1) = some (PySem.HandSPX.excO C hp.objs.size) := by heap_get
    have I2 : Inv X pins σ (upd H1 (hp.objs.size + 1) (exo (hp.objs.size + 1) C none)) ⟨(hp.push (PySem.W.kdv_tup [])).push (PySem.HandSPX.excO C hp.objs.size), g, dr, tk, os⟩ :=
      I1.laid (t' := tk) (a := hp.objs.size + 1) (o := exo (hp.objs.size + 1) C none) (h' := (hp.push (PySem.W.kdv_tup [])).push (PySem.HandSPX.excO C hp.objs.size)) kk up (exo_ok hget)
    have r2 : Vals [V.ref (hp.objs.size + 1), v] [Value.ref (hp.objs.size + 1), u] := .cons rfl (.cons ru .nil)
    refine wpAny_call (call_made hbm (I1.kIn _ _ hC) (PySem.W.looks_findIn I1.kIn iC) (fun self => PySem.W.bind_fn I1.kIn self tI)
      (codeAny_mono (F1.run _ X.stack _ _ ⟨[Value.ref (hp.objs.size + 1)], [(f, u)]⟩ [Value.ref (hp.objs.size + 1), u] _ (fun v' H' => v' = .non ∧ ∃ dx, H1 dx = none ∧ dx ≠ hp.objs.size + 1 ∧ H' = upd (upd (upd H1 (hp.objs.size + 1) (exo (hp.objs.size + 1) C none)) dx (exd dx [(f, v)])) (hp.objs.size + 1) (exo (hp.objs.size + 1) C (some dx))) (fun _ _ _ => False) (hr.make C [] [(f, u)]) (I2.env0.make C [] [(f, u)]) (hb _ _ _) r2
        ⟨_, v, rfl, upd_same, fun dx H' n ne e => ⟨rfl, dx, by rw [upd_ne ne] at n; exact n, ne, e⟩⟩) fun r s' hq' => ?_))
    cases r with
    | error er =>
      exfalso
      have hq' : L2.CX X.prog X.w X.stack _ _ (fun _ _ _ => False) er s' := hq'
      obtain ⟨_, _, _, _, _, _, _, _, _, _, _, _, z⟩ := hq'
      exact z
    | ok fl =>
      cases fl with
      | ret u' =>
        obtain ⟨v', H2, os2, bare2, un2, hok2, rv, ev, dx, ndx, nea, eH⟩ := hq'
        subst ev
        obtain ⟨h2, g2, d2, t2, os'⟩ := s'
        have ea : H2 (hp.objs.size + 1) = some (exo (hp.objs.size + 1) C (some dx)) := by rw [eH, upd_same]
        have ed : H2 dx = some (exd dx [(f, v)]) := by rw [eH, upd_ne nea, upd_same]
        refine ⟨rv, mk_end (raises_own T.exC T.tyC) I1 up kk un2 hok2 os2 bare2 ea ed ndx (q1 dx _ ndx ?_)⟩
        funext b
        by_cases hbd : b = dx
        · rw [hbd, upd_same, upd_same]
        · rw [upd_ne hbd, upd_ne hbd]
          by_cases hba : b = hp.objs.size + 1
          · rw [hba, del_same, hn]
          · rw [del_ne hba, eH, upd_ne hba, upd_ne hbd, upd_ne hba]
      | next => exact False.elim hq'
      | brk => exact False.elim hq'
      | cont => exact False.elim hq'
end
end Dl.KwX
/-! ### isinstance(e, T), e.f of a held error that has a dict -/
namespace Dl.KwX
open PySem PySem.Spec PySem.Calls PyProof.Rows L2
section
variable {prog : Program} {w : World} {A : Around} {E : Value → Shared → Prop} {s : Shared} {K : PySem.W.Frag} {x D : Addr} {ox : Obj} {od : Option Obj}
theorem find_data {C : Addr} {n : Str} {a g : Value} (hc : (PySem.W.clsIn K C).isSome = true) (ha : PySem.W.findIn K (.ref C) n = some (some a)) (hg : PySem.W.specialIn K a "__get__" = some (some g)) (ht : PySem.W.takesIn K a = some true) : PySem.W.findObj K C od n = some (.bind g a) := by
  obtain ⟨cd, hcd⟩ := Option.isSome_iff_exists.mp hc
  unfold PySem.W.findObj
  rw [hcd, Option.bind_some, ha, Option.bind_some]
  simp [hg, ht]
theorem kin_any {Q : Option Value → Shared → Prop} (C : L2.ExcC K D) (X : K.In s.heap) (I : PySem.W.InstAt s.heap x ox D od) (h : Q (some (.ref D)) { s with toks := s.toks + 1 }) : wpAny (model prog w) A (getAttr? (.ref x) "__class__") Q E s := by
  have hf : PySem.W.findObj K D od "__class__" = some (.bind (.builtin "getset_descriptor.__get__") (.builtin "object.__class__")) := find_data (by obtain ⟨cd, hc, _⟩ := PySem.W.any_some C.hd; rw [hc]; rfl) C.ha C.hn C.ht
  obtain ⟨hp, gs, dr, tk, os⟩ := s
  have lt := I.type (M := model prog w)
  have lg := PySem.W.looks_findIn (M := model prog w) X C.hg
  have lk := PySem.W.looks_findIn (M := model prog w) X C.hk
  have lf := PySem.W.looks_find (M := model prog w) X I hf
  have isB : PySem.W.Looks (model prog w) hp (isInstance (.ref x) (.type "BaseException")) true := lt.andThen (PySem.W.looks_subIn X C.hs)
  have z0 : (false && onTheHeap (Value.builtin "BaseException.__getattribute__")) = false := rfl
  have z2 : (Value.builtin "BaseException.__getattribute__" == Value.builtin "object.__getattribute__") = false := by decide +kernel
  have z1 : (onTheHeap (Value.ref D) && Value.builtin "BaseException.__getattribute__" == Value.builtin "object.__getattribute__") = false := by rw [z2]; rfl
  unfold getAttr? getAttrBy? getAttrBy
  refine wpAny_bind (wpAny_mkText (wpAny_bind (wpAny_attempt (wpAny_holding (wpAny_bind (lt.at (wpAny_bind (lg.at ?_))))))))
  show wpAny _ _ (if (onTheHeap (Value.ref D) && Value.builtin "BaseException.__getattribute__" == Value.builtin "object.__getattribute__") = true then _ else _) _ _ _
  rw [z1, if_neg Bool.false_ne_true]
  unfold getAttrByItsOwn hookBefore
  refine wpAny_bind ?_
  rw [if_pos (show onTheHeap (Value.ref D) = true from rfl)]
  refine lk.at ?_
  refine wpAny_bind (wpAny_attempt (wpAny_holding ?_))
  unfold callGetattribute
  rw [z0, if_neg Bool.false_ne_true]
  unfold boundAndCalled
  rw [PySem.F.excAttr_ValueError.ga.bind (.ref x)]
  refine wpAny_bind (wpAny_pure ?_)
  show wpAny _ _ (call (.builtin "BaseException.__getattribute__") [.ref x, .str "__class__" tk]) _ _ _
  refine wpAny_call (codeAny_call_builtin PySem.F.excAttr_ValueError.ga.plain PySem.F.entry_bexc_ga ?_)
  refine @PySem.W.check_slot (model prog w) _ _ ⟨hp, gs, dr, tk + 1, os⟩ "BaseException.__getattribute__" "BaseException" "__getattribute__" (.ref x) [.str "__class__" tk] [] _ (by decide +kernel) (by decide +kernel) isB (PySem.F.args_bexc_ga (.ref x) (.str "__class__" tk)) ?_
  unfold Builtin.«object.__getattribute__»
  refine wpAny_bind (wpAny_of_eq (a := ((Value.ref x : Value), [Value.str "__class__" tk])) (by first | rfl | (simp only [slotArgs]; rfl)) ?_)
  refine wpAny_bind (wpAny_pure (wpAny_bind (lt.at (wpAny_bind (lf.at ?_)))))
  show wpAny _ _ (holding [Value.builtin "object.__class__"] (call (.builtin "getset_descriptor.__get__") [.builtin "object.__class__", .ref x, .ref D]) >>= ret) _ _ _
  refine wpAny_bind (wpAny_holding (wpAny_call (PySem.W.class_get (s := ⟨hp, gs, dr, tk + 1, os⟩) (ox := ox) (od := od) X I C.hm ?_)))
  refine wpAny_pure ?_
  show wpAny _ _ (handedOut (.ref D)) _ _ _
  rw [PySem.W.handedOut_of (v := .ref D) rfl]
  first
    | exact wpAny_pure (wpAny_pure h)
    | exact wpAny_pure h
    | exact wpAny_pure (wpAny_bind (wpAny_pure (wpAny_pure h)))
theorem kitx_any (C : L2.ExcC K D) : PySem.W.KitX K (.ref x) (.ref D) (fun h => PySem.W.InstAt h x ox D od) where
  ty := fun _ _ _ I => I.type
  it := fun _ _ X _ => by
    obtain ⟨cdD, hcD, _⟩ := PySem.W.any_some C.hd
    unfold PySem.W.clsIn at hcD
    split at hcD
    · rename_i c1 d1 cd1 sl1 ho
      intro A1 Q1 E1 s1 k q
      unfold isType loadHead
      exact wpAny_bind (wpAny_loadPart (k _ _ (X _ _ ho)) (wpAny_pure q))
    · cases hcD
  ne := fun h tp dd its n sl X htp => by
    obtain ⟨cdD, hcD, _⟩ := PySem.W.any_some C.hd
    refine Bool.eq_false_iff.mpr fun q => ?_
    have e : D = tp := Value.ref.inj (beq_iff_eq.mp q)
    subst e
    unfold PySem.W.clsIn at hcD
    split at hcD
    · rename_i c1 d1 cd1 sl1 ho
      have z := (X _ _ ho).symm.trans htp
      cases z
    · cases hcD
  ca := fun X I k => kin_any C X I k
end
/-- isinstance(e, c), e the held error, its dict at dd -/
def rIsX (K : PySem.W.Frag) (D a dd : Addr) : List V → Hp → VK → Prop := fun xs H Q => ∃ (fs : List (Str × V)) (c : V) (cv : Value) (b : Bool), H dd = some (.xd fs) ∧ xs = [.ref a, c] ∧ (∀ u, RelV c u → u = cv) ∧ PySem.W.kitOne K (.ref D) cv = some b ∧ Q (.bl b) H
theorem call_isX {X : Cx} {a D dd : Addr} {oe : Obj} {pn : List (Addr × Obj)} (C : L2.ExcC X.K D) (hz : Zc (.ref D) (some dd) oe) (hf : ∃ vs, oe.data = .fields vs) : CallR (X.suite a ((a, oe) :: pn)) (.builtin "isinstance") (rIsX X.K D a dd) := by
  intro pins s σ H xs us Q I r h
  obtain ⟨fs, c, cv, b, hd, rfl, hcv, e, q⟩ := h
  cases r with
  | cons rx rr =>
    cases rr with
    | cons rt rr =>
      cases rr
      cases rx
      have ec := hcv _ rt
      subst ec
      obtain ⟨hget, _⟩ := I.pin (a, oe) (List.mem_append.mpr (.inl List.mem_cons_self))
      obtain ⟨vs, hv⟩ := hf
      have hx : ObjOk X.prog X.w H s.heap dd (.xd fs) := I.hok dd _ hd
      obtain ⟨mA, hns, hr⟩ := hx
      obtain ⟨od, ho, hl⟩ := lookIn_ns hns
      have J : PySem.W.InstAt s.heap a oe D (some od) := ⟨hget, hz.1, by unfold PySem.W.notCls; rw [hv] <;> rfl, by rw [hz.2]; exact ho⟩
      exact PySem.W.kia_one (kitx_any C) I.kIn J e (fun z => nomatch z) fun tk => ⟨.bl b, H, I.kept (t' := tk) fun _ _ z => z, rfl, q⟩
end Dl.KwX
set_option autoImplicit true
/-! The data layer: own errors raised; isinstance of one that is held; the law's def that makes lambdas. -/
namespace Dl
open PySem PySem.Spec PyProof.Rows L2 TL LamX

/-- what is told of an own class over ValueError, made with a text -/
structure ExcK (K : PySem.W.Frag) (mg : Str → Option Value) (x : Str) (C : Addr) : Prop where
  g : mg x = some (.ref C)
  x : PySem.W.excIn K C [.type "ValueError", .type "Exception", .type "BaseException", .type "object"] "ValueError.__new__" = true
  k : PySem.W.keepIn K (.ref C) = true
  b : PySem.W.subIn K (.ref C) (.type "BaseException") = some true
  t : PySem.W.typeIn K (.ref C) = some (.type "type")
def sRaise (c : Nat) : SS := fun r m => .exc c (.own [] []) r m
section
variable {X : Cx} {w : Wi}
theorem ds_raise0 {c : Nat} {C : Addr} {x z : Str} {j : Nat} {p p2 pos rp : Pos} (hc : X.calm = true) (tk : L2.Takes X w.W) (hC : ExcK X.K X.mg x C) (hT : w.T c = C) (hg : Gl X x) (hdb : (x == ("__debug__" : Str)) = false := by decide) :
    DS X w (.Raise (some (.Call (.Name x p) [.Constant (.str z) j p2] [] pos)) none rp) (sRaise c) :=
  PS.imp (L2.ps_raise hc tk (L2.pmk_own PySem.F.excBase_ValueError hC.x hC.g hC.k (raises_own hC.b hC.t) hg hdb)) fun E s H ⟨x, r, m, R, q⟩ => q (.ref C) none s x H R ⟨by rw [hT], .inl ⟨rfl, rfl⟩⟩ .refl
/-- what isn't reached -/
theorem de_never {e : Expr} : DE X w e (fun _ _ => .bad) := ⟨fun _ _ _ _ _ _ ⟨_, _, _, _, q⟩ => q.elim⟩
/-- isinstance(e, T), e the error that the suite holds, at slot i -/
def sIsE (a : Addr) (i : Nat) (b : Bool) : SE := fun r m => match r[i]? with
  | some (some (.val (.cst (.ref a')))) => if a' = a then .ok (.bl b) m else .bad
  | _ => .bad
theorem de_isE {a D : Addr} {oe : Obj} {pn : List (Addr × Obj)} {i : Nat} {b : Bool} {e f : Expr} {c : V} {cv : Value} {p pos : Pos} (C : ExcC X.K D) (hz : Zc (.ref D) none oe) (hf : ∃ vs, oe.data = .fields vs) (hg : Gl (X.suite a ((a, oe) :: pn)) "isinstance") (hm : X.mg "isinstance" = none)
    (he : PE (X.suite a ((a, oe) :: pn)) e (tVar i)) (hc : PE (X.suite a ((a, oe) :: pn)) f (tC c)) (hcv : ∀ u, RelV c u → u = cv) (hk : PySem.W.kitOne X.K (.ref D) cv = some b)
    (hs : starEach [e, f] (X.suite a ((a, oe) :: pn)).env = (false, eval e (X.suite a ((a, oe) :: pn)).env) :: starEach [f] (X.suite a ((a, oe) :: pn)).env := by rfl) (hs' : starEach [f] (X.suite a ((a, oe) :: pn)).env = [(false, eval f (X.suite a ((a, oe) :: pn)).env)] := by rfl) (hpl : (backTo pos (starEach [f] (X.suite a ((a, oe) :: pn)).env)).any (·.1) = false := by rfl) :
    DE (X.suite a ((a, oe) :: pn)) w (.Call (.Name "isinstance" p) [e, f] [] pos) (sIsE a i b) :=
  PE.imp (pe_callB (call_isE C hz hf) hg hm PyProof.Rows.boot_isinstance (pa_cons he (pa_cons hc pa_nil hs') hs) (by decide) (by decide) hs hpl) fun s H Q ⟨x, r, m, R, q⟩ => by
    unfold sIsE at q
    split at q
    · rename_i a' hr
      by_cases ha : a' = a
      · rw [if_pos ha] at q
        subst ha
        obtain ⟨v, A0, h1, h2, _⟩ := slot_at R hr
        cases h2 with
        | val h2 =>
          cases h2
          exact ⟨_, h1, c, cv, b, rfl, hcv, hk, q _ x H R (.bl b) .refl⟩
      · rw [if_neg ha] at q
        exact q.elim
    · exact q.elim
end
/-! ### own errors with a field -/
/-- what is known of an own error class with a field: its own __init__ takes it by its name -/
structure ErrOk (P : Program) (w : World) (K : PySem.W.Frag) (mg : Str → Option Value) (base : Heap) (t : Tf) (c : Nat) (x f : Str) : Prop where
  g : mg x = some (.ref (t.T c))
  oe : OexC K (t.T c)
  fl : t.fld c = f
  fn : ∃ (fI : Addr) (fd : FuncData) (ps : List Str), PySem.W.findIn K (.ref (t.T c)) "__init__" = some (some (.ref fI)) ∧ PySem.W.typeIn K (.ref fI) = some (.type "function") ∧ FnOk P w K mg base (L2.CX P w) 1 fI fd ps (KwX.spInit (t.T c) f) ∧ ∀ (s : Shared) (u v : Value), BindsTo s fd ⟨[u], [(f, v)]⟩ (ps.zip [u, v])
/-- .. its def in the text -/
structure InitIs (K : PySem.W.Frag) (C : Addr) (qual : Str) (st : Stmt) : Prop where
  ex : ∃ (fI : Addr) (oc kV doc pm cdv ct : Value) (od an : Option Addr) (osl : Array (Option Value)), PySem.W.findIn K (.ref C) "__init__" = some (some (.ref fI)) ∧ PySem.W.typeIn K (.ref fI) = some (.type "function") ∧
    K.lookup fI = some ⟨oc, od, .func (PySem.W.fnOf "__init__" qual (defArgs st) (defBody st) (defScope st) .none kV doc pm an cdv ct), osl⟩ ∧ PySem.W.codeIn K cdv qual = true
theorem ErrOk.of {P : Program} {w : World} {K : PySem.W.Frag} {mg : Str → Option Value} {base : Heap} {t : Tf} {c : Nat} {x f qual : Str} {st : Stmt} {N : List Str} (hg : mg x = some (.ref (t.T c))) (T : OexC K (t.T c)) (fl : t.fld c = f) (D : InitIs K (t.T c) qual st)
    (hno : PySem.W.findIn K (.ref (t.T c)) f = some none) (S : FnScope N ["self", f] (defScope st)) (hN : N.length = 2)
    (hb : ∀ (kV doc pm cdv ct u v : Value) (an : Option Addr), bindArgs (PySem.W.fnOf "__init__" qual (defArgs st) (defBody st) (defScope st) .none kV doc pm an cdv ct) ⟨[u], [(f, v)]⟩ = pure [(("self" : Str), u), (f, v)])
    (hbody : ∀ (fI : Addr) (cdv : Value) (A : Around) (outer : List PySem.Env) (s : Shared) (H : Hp) (E : XK), PSs (cxOf (L2.CX P w) P w K mg base N qual (defScope st) fI cdv A outer s H E) (defBody st) (tSeq (tDrop (tVeI K (tCons (tVar 0) (tCons (tVar 1) tNil)))) (tOst K f (tVar 0) (tVar 1)))) :
    ErrOk P w K mg base t c x f := by
  obtain ⟨fI, oc, kV, doc, pm, cdv, ct, od, an, osl, h1, h2, lk, hcd⟩ := D.ex
  refine ⟨hg, T, fl, fI, _, ["self", f], h1, h2, fn_of (k := 0) lk hcd S (fun vs H Q E h => ?_) (fun A outer s H vs Q E hr h => ⟨_, hbody fI cdv A outer s H E, KwX.init_start T hno hN h⟩), fun s u v => .of_eq (hb kV doc pm cdv ct u v an)⟩
  obtain ⟨a, v, e, _⟩ := h
  rw [e]
  rfl
def sRaiseF (c : Nat) (fe : SE) : SS := fun r m => bindS r (fe r m) fun d m => match d with
  | .int i => .exc c (.int i) r m
  | _ => .bad
/-- isinstance(e, T), e the held error at slot i, its dict at dd -/
def sIsX (a dd : Addr) (i : Nat) (b : Bool) : SE := fun r m => match r[i]? with
  | some (some (.val (.erx a' dd' _ _))) => if a' = a ∧ dd' = dd then .ok (.bl b) m else .bad
  | _ => .bad
/-- e.n -/
def sXf (a dd : Addr) (n : Str) (i : Nat) : SE := fun r m => match r[i]? with
  | some (some (.val (.erx a' dd' f k))) => if a' = a ∧ dd' = dd ∧ f = n then .ok (.int k) m else .bad
  | _ => .bad
section
variable {X : Cx} {w : Wi}
theorem ds_raiseF {t : Tf} {c : Nat} {x f : Str} {e : Expr} {fe : SE} {p kp pos rp : Pos} (hc : X.calm = true) (tk : L2.Takes X w.W) (ht : t = w.tf) (C : ErrOk X.prog X.w X.K X.mg X.base t c x f) (hr : Room 2 X.A) (hg : Gl X x) (he : DE X w e fe) (hdb : (x == ("__debug__" : Str)) = false := by decide)
    (hall : (backToKw pos (keywordEach [⟨some f, e, kp⟩] X.env)).all (·.1.isSome) = true := by rfl) (hks : (backToKw pos (keywordEach [⟨some f, e, kp⟩] X.env)).filterMap (·.1) = [f] := by rfl)
    (hpl : ((backTo pos (starEach [] X.env)).any (·.1) || (backToKw pos (keywordEach [⟨some f, e, kp⟩] X.env)).any (·.1.isNone)) = false := by rfl) :
    DS X w (.Raise (some (.Call (.Name x p) [] [⟨some f, e, kp⟩] pos)) none rp) (sRaiseF c fe) := by
  subst ht
  obtain ⟨fI, fd, ps, h1, h2, F1, hb⟩ := C.fn
  refine PS.imp (L2.ps_raise hc tk (KwX.pmk_kw (k := 1) C.oe h1 h2 F1 hr hb hg C.g he hdb hall hks hpl)) fun E s H ⟨x0, r, m, R, q⟩ => ?_
  refine rd_bindS R q fun d m1 v y H1 R1 p1 st1 q1 dd H2 hn e2 => ?_
  cases d with
  | int i =>
    cases p1
    subst e2
    exact q1 _ _ s _ _ (R1.new hn) ⟨rfl, .inr ⟨dd, .int i, rfl, by rw [show w.fld c = f from C.fl]; exact upd_same, .int i⟩⟩ (StE.new R1 hn).toS
  | _ => exact q1.elim
theorem de_isX {a dd D : Addr} {oe : Obj} {pn : List (Addr × Obj)} {i : Nat} {b : Bool} {e f : Expr} {c : V} {cv : Value} {p pos : Pos} (C : ExcC X.K D) (hz : Zc (.ref D) (some dd) oe) (hf : ∃ vs, oe.data = .fields vs) (hg : Gl (X.suite a ((a, oe) :: pn)) "isinstance") (hm : X.mg "isinstance" = none)
    (he : PE (X.suite a ((a, oe) :: pn)) e (tVar i)) (hc : PE (X.suite a ((a, oe) :: pn)) f (tC c)) (hcv : ∀ u, RelV c u → u = cv) (hk : PySem.W.kitOne X.K (.ref D) cv = some b)
    (hs : starEach [e, f] (X.suite a ((a, oe) :: pn)).env = (false, eval e (X.suite a ((a, oe) :: pn)).env) :: starEach [f] (X.suite a ((a, oe) :: pn)).env := by rfl) (hs' : starEach [f] (X.suite a ((a, oe) :: pn)).env = [(false, eval f (X.suite a ((a, oe) :: pn)).env)] := by rfl) (hpl : (backTo pos (starEach [f] (X.suite a ((a, oe) :: pn)).env)).any (·.1) = false := by rfl) :
    DE (X.suite a ((a, oe) :: pn)) w (.Call (.Name "isinstance" p) [e, f] [] pos) (sIsX a dd i b) :=
  PE.imp (pe_callB (KwX.call_isX C hz hf) hg hm PyProof.Rows.boot_isinstance (pa_cons he (pa_cons hc pa_nil hs') hs) (by decide) (by decide) hs hpl) fun s H Q ⟨x, r, m, R, q⟩ => by
    unfold sIsX at q
    split at q
    · rename_i a' dd' f' k hr
      by_cases ha : a' = a ∧ dd' = dd
      · rw [if_pos ha] at q
        obtain ⟨rfl, rfl⟩ := ha
        obtain ⟨v, A0, h1, h2, _⟩ := slot_at R hr
        cases h2 with
        | val h2 =>
          cases h2 with
          | erx hF => exact ⟨_, h1, _, c, cv, b, R.sub _ _ hF, rfl, hcv, hk, q _ x H R (.bl b) .refl⟩
      · rw [if_neg ha] at q
        exact q.elim
    · exact q.elim
theorem de_xf {a dd C : Addr} {oe : Obj} {pn : List (Addr × Obj)} {i : Nat} {n : Str} {e : Expr} {pos : Pos} (T : ExcC X.K C) (hno : PySem.W.findIn X.K (.ref C) n = some none) (hz : Zc (.ref C) (some dd) oe) (hf : ∃ vs, oe.data = .fields vs) (he : PE (X.suite a ((a, oe) :: pn)) e (tVar i))
    (hb : attributeBase e n X.env (eval e X.env) = eval e X.env := by rfl) : DE (X.suite a ((a, oe) :: pn)) w (.Attribute e n pos) (sXf a dd n i) :=
  PE.imp (pe_xf ⟨T.hg, T.hk, T.hs, T.hd⟩ hno hz hf he hb) fun s H Q ⟨x, r, m, R, q⟩ => by
    unfold sXf at q
    split at q
    · rename_i a' dd' f' k hr
      by_cases ha : a' = a ∧ dd' = dd ∧ f' = n
      · rw [if_pos ha] at q
        obtain ⟨rfl, rfl, rfl⟩ := ha
        obtain ⟨v, A0, h1, h2, _⟩ := slot_at R hr
        cases h2 with
        | val h2 =>
          cases h2 with
          | erx hF => exact ⟨_, h1, rfl, rfl, dd', _, .int k, rfl, R.sub _ _ hF, by simp, q _ x H R (.int k) .refl⟩
      · rw [if_neg ha] at q
        exact q.elim
    · exact q.elim
end
/-! ### l.index(e) -/
def idxD (l : List D) (d : D) : Option Nat := l.findIdx? fun y => eqD y d
def fIdx : D → List D → Sto → R D
  | .lst l, [d], m => if flatD d = true ∧ l.all flatD = true then (match idxD l d with
    | some j => .ok (.int (j : Nat)) m
    | none => .bad) else .bad
  | _, _, _ => .bad
theorem flat_idx {F : Hp} {io : List Addr} {d : D} {v : V} (r : Rep F io d v) (fd : flatD d = true) : ∀ {l : List D} {vs : List V} {j : Nat}, Reps F io l vs → l.all flatD = true → idxD l d = some j → ∃ z, vs[j]? = some z ∧ eqV z v = true ∧ ∀ (k : Nat) (z' : V), k < j → vs[k]? = some z' → eqV z' v = false
  | _, _, j, .nil, _, h => by cases h
  | d' :: l, v' :: vs, j, .cons r' t, f, h => by
    rw [List.all_cons, Bool.and_eq_true] at f
    have e1 := (flat_rep r' f.1).2 d fd v r
    unfold idxD at h
    rw [List.findIdx?_cons] at h
    by_cases hd : eqD d' d = true
    · rw [if_pos hd] at h
      cases h
      exact ⟨v', rfl, e1.trans hd, fun k z' hk _ => absurd hk (Nat.not_lt_zero _)⟩
    · rw [if_neg hd] at h
      cases hj : l.findIdx? (fun y => eqD y d) with
      | none => rw [hj] at h; cases h
      | some j' =>
        rw [hj] at h
        cases h
        obtain ⟨z, h1, h2, h3⟩ := flat_idx r fd t f.2 hj
        refine ⟨z, by simpa using h1, h2, fun k z' hk hz => ?_⟩
        cases k with
        | zero =>
          cases hz
          rw [e1]
          exact Bool.eq_false_iff.mpr hd
        | succ k => exact h3 k z' (Nat.lt_of_succ_lt_succ hk) (by simpa using hz)
section
variable {X : Cx} {w : Wi} {a o : Expr} {apos cpos : Pos} {fa fo : SE}
theorem cm_idx (K : PySem.W.Frag) : CmM pw w fIdx (rIndex K) := by
  intro x e m s H Q d v ds vs R pd ps h
  unfold fIdx at h
  split at h
  · rename_i l d'
    obtain ⟨⟨f1, f2⟩, h⟩ := Fin.ite h
    split at h
    · rename_i j hj
      obtain ⟨p, us, rfl, hp, q⟩ := pd.lst R
      obtain ⟨v', rfl, pv⟩ := ps.one
      have rv := pv.flat f1
      obtain ⟨z, h1, h2, h3⟩ := flat_idx rv f1 q f2 hj
      exact ⟨p, us, v', j, z, rfl, rfl, SqL.of hp, (flat_rep rv f1).1, (flat_reps rv f1 q f2).1, h1, h2, h3, Fin.here R h (.int _)⟩
    · exact h.elim
  · exact h.elim
theorem de_idx (ho : DK X w o fo) (ha : DK X w a fa) (hs : starEach [a] X.env = [(false, eval a X.env)] := by rfl) (hbase : attributeBase o "index" X.env (eval o X.env) = eval o X.env := by rfl)
    (hfew : ((backTo cpos (starEach [a] X.env)).all (fun x => !x.1) && (backToKw cpos (keywordEach [] X.env)).all (fun x => x.1.isSome)
      && decide ([a].length + ([] : List Keyword).length + (if ([] : List Keyword).isEmpty then 0 else 1) < 30)) = true := by rfl)
    (hline : (apos.endLine == cpos.line) = true := by rfl) (hpl : (backTo cpos (starEach [] X.env)).any (·.1) = false := by rfl) : DE X w (.Call (.Attribute o "index" apos) [a] [] cpos) (sMeth "list" fIdx fo (aCons fa aNil)) :=
  de_bm PySem.F.plainAttrs_list PySem.F.slot_list_index PySem.F.type_list_index mt_index (cm_idx _) ho (dk_cons ha dk_nil hs) (by decide) hbase hfew hline hs hpl
end
/-! ### the law's own def, when it makes lambdas -/
def spLawT (K : PySem.W.Frag) (p : Addr) : Sp := fun vs H Q _ => ∃ (a : Addr) (ns : List Int), vs = [.ref a] ∧ ns.length ≤ 63 ∧ SqL K H a (ns.map V.int) ∧ H p = some (.tbl #[]) ∧ ∀ H', Q (.bl true) H'
/-- what the rest of the law's def comes to -/
def LawOkT (N : List Str) (seed : Int) (g : LamC → SS) : Prop := ∀ (C : LamC) (a : Addr) (ns : List Int), ns.length ≤ 63 → ∃ m, g C (lawE N a) [.drw (mixS ns seed) ns 0, .tab C.P C.q] = .rt (.bl true) m
theorem law_startT {K : PySem.W.Frag} {w : Wi} {N : List Str} {seed : Int} {g : LamC → SS} (h : LawOkT N seed g) (h2 : 2 ≤ N.length) (C : LamC) {vs : List V} {H : Hp} {Q : VK} {E : XK} {We : L2.St → XK} (hs : spLawT K C.P vs H Q E) :
    tSeq (tAsg (tCallS (spMix K) We (tCons (tVar 0) (tCons (tC (.int seed)) tNil))) (L2.gName 1)) (rdS pw w (g C)) { nx := fun _ H' => Q .non H', rt := Q } (L2.start N vs) H := by
  obtain ⟨a, ns, rfl, hl, hS, hP, q⟩ := hs
  have e0 : L2.start N [.ref a] = some (.ref a) :: none :: List.replicate (N.length - 2) none := by
    unfold L2.start
    obtain ⟨k, hk⟩ : ∃ k, N.length = k + 2 := ⟨N.length - 2, by omega⟩
    rw [hk]
    rfl
  rw [e0]
  refine ⟨_, rfl, a, ns, seed, rfl, hS, fun b p hb hp hpb => ?_⟩
  obtain ⟨m, em⟩ := h C a ns hl
  have nb : b ≠ C.P := fun z => by rw [z, hP] at hb; cases hb
  have np : p ≠ C.P := fun z => by rw [z, hP] at hp; cases hp
  obtain ⟨H', hH⟩ : ∃ H', H' = upd (upd H b (.lst (ns.map V.int))) p (.lst [.int (mixS ns seed), .ref b, .int 0]) := ⟨_, rfl⟩
  have hpb' : H' p = some (.lst [.int (mixS ns seed), .ref b, .int 0]) := by rw [hH, upd_same]
  have hbb : H' b = some (.lst (ns.map V.int)) := by rw [hH, upd_ne (Ne.symm hpb), upd_same]
  have hPP : H' C.P = some (.tbl #[]) := by rw [hH, upd_ne (Ne.symm np), upd_ne (Ne.symm nb), hP]
  show rdS pw w (g C) _ (some (.ref a) :: some (.ref p) :: List.replicate (N.length - 2) none) _
  rw [← hH]
  refine ⟨⟨fun _ => none, [p, C.P], [], [p, b, C.P]⟩, lawE N a, [.drw (mixS ns seed) ns 0, .tab C.P C.q], ⟨fun c o z => (by cases z), ?_, Stos.cons (A := [C.P]) (ObjR.drw hpb' hbb) (Stos.cons (A := []) (ObjR.tab (ps := #[]) hPP True.intro fun pos cv hc => ?_) .nil), ?_, fun _ _ => rfl⟩, ?_⟩
  · refine Vars.cons (A0 := []) (.val (.cst _)) (Vars.cons (A0 := []) (A := []) (.val (.obj rfl)) ?_)
    generalize N.length - 2 = k
    induction k with
    | zero => exact .nil
    | succ k ih => exact .skip ih
  · have z : codeAmong pos [] = some cv := hc
    simp [codeAmong] at z
  · show ([] ++ [p, b, C.P]).Nodup
    simp [hpb, nb, np]
    try exact ⟨fun z => hpb z, fun z => np z⟩
  · rw [em]
    intro v y H2 _ rp _
    cases rp
    exact q H2
section
variable {P : Program} {w : World} {K : PySem.W.Frag} {mg : Str → Option Value} {base : Heap} {k : Nat} {x : Str} {st : Stmt} {N ps : List Str}
theorem law_fnT {f c p : Addr} {lx : Str} {seed : Int} {g : LamC → SS} {t : Tf} {kV doc pm ct oc : Value} {an od : Option Addr} {osl : Array (Option Value)} {Lf : Str → List (Str × Addr) → Nat → LamD}
    (lk : K.lookup f = some ⟨oc, od, .func (PySem.W.fnOf "law" "law" (defArgs st) (defBody st) (defScope st) .none kV doc pm an (.ref c) ct), osl⟩) (hcd : PySem.W.codeIn K (.ref c) "law" = true) (S : FnScope N [lx] (defScope st)) (h : LawOkT N seed g) (h2 : 2 ≤ N.length)
    (hbody : ∀ (A : Around) (outer : List PySem.Env) (s : Shared) (H : Hp) (E : XK), Room k (A.deeper (envOfC "law" (defScope st) s.heap.objs.size f (.ref c))) → PSs (cxOf (L2.CX P w) P w K mg base N "law" (defScope st) f (.ref c) A outer s H E) (defBody st) (tSeq (tAsg (tCallS (spMix K) (WE (t.wi E).W) (tCons (tVar 0) (tCons (tC (.int seed)) tNil))) (L2.gName 1)) (rdS (P, w, mg) (t.wi E) (g ⟨Lf ((envOfC "law" (defScope st) s.heap.objs.size f (.ref c)).qual ++ "<lambda>") (envOfC "law" (defScope st) s.heap.objs.size f (.ref c)).cells, p, (envOfC "law" (defScope st) s.heap.objs.size f (.ref c)).qual ++ "<lambda>"⟩)))) :
    FnOk P w K mg base (L2.CX P w) (k + 1) f (PySem.W.fnOf "law" "law" (defArgs st) (defBody st) (defScope st) .none kV doc pm an (.ref c) ct) [lx] (spLawT K p) :=
  fn_of lk hcd S (fun vs H Q E h => by
    obtain ⟨a, ns, rfl, _⟩ := h
    rfl) fun A outer s H vs Q E hr hs => ⟨_, hbody A outer s H E hr, law_startT h h2 ⟨Lf ((envOfC "law" (defScope st) s.heap.objs.size f (.ref c)).qual ++ "<lambda>") (envOfC "law" (defScope st) s.heap.objs.size f (.ref c)).cells, p, (envOfC "law" (defScope st) s.heap.objs.size f (.ref c)).qual ++ "<lambda>"⟩ hs⟩
end
end Dl
set_option autoImplicit true
/-! The data layer: where a lambda stands in a text. -/
namespace Dl
open PySem PySem.Spec PyProof.Rows L2 TL
def kidsS : Stmt → List Stmt
  | .For _ _ b o _ => b ++ o
  | .While _ b o _ => b ++ o
  | .If _ b o _ => b ++ o
  | _ => []
def exprS : Stmt → List Expr
  | .Assign _ v _ => [v]
  | .Expr v _ => [v]
  | .Return (some v) _ => [v]
  | .If c _ _ _ => [c]
  | .For _ i _ _ _ => [i]
  | _ => []
def kidsE : Expr → List Expr
  | .List es _ => es
  | .Tuple es _ _ => es
  | .BinOp a _ b _ => [a, b]
  | .Call f es _ _ => f :: es
  | .Compare a _ bs _ => a :: bs
  | .BoolOp _ es _ => es
  | .ListComp e gs _ _ => e :: gs.map (·.iter)
  | _ => []
def stAt : List Nat → List Stmt → Stmt
  | [], _ => .Pass ⟨0, 0, 0, 0⟩
  | [i], l => l.getD i (.Pass ⟨0, 0, 0, 0⟩)
  | i :: p, l => stAt p (kidsS (l.getD i (.Pass ⟨0, 0, 0, 0⟩)))
def exAt : List Nat → List Expr → Expr
  | [], _ => .Constant .none 0 ⟨0, 0, 0, 0⟩
  | [i], l => l.getD i (.Constant .none 0 ⟨0, 0, 0, 0⟩)
  | i :: p, l => exAt p (kidsE (l.getD i (.Constant .none 0 ⟨0, 0, 0, 0⟩)))
def lamX : Expr → Arguments × Expr × Scope
  | .Lambda a b s _ => (a, b, s)
  | _ => (⟨[], [], none, [], [], none, []⟩, .Constant .none 0 ⟨0, 0, 0, 0⟩, default)
def isLam : Expr → Bool
  | .Lambda _ _ _ _ => true
  | _ => false
theorem lam_of : ∀ {e : Expr}, isLam e = true → ∃ pos, e = .Lambda (lamX e).1 (lamX e).2.1 (lamX e).2.2 pos := fun {e} h => by
  cases e <;> first | exact ⟨_, rfl⟩ | cases h
section
variable {X : Cx} {w : Wi} [C : LamC] {k : Nat} {p c : Addr} {e : Expr} {lx : Arguments × Expr × Scope}
theorem de_lam0E (hi : isLam e = true) (hx : lamX e = lx) (TB : LamX.TabB X.base X.mg c p) (hcode : X.env.code = .ref c) (hP : C.P = p) (hq : C.q = X.env.qual ++ "<lambda>") (hL : C.L k = ⟨lx.1, lx.2.1, lx.2.2, X.env.qual ++ "<lambda>", cloFrom X.env.cells lx.2.2.names []⟩)
    (hfree0 : ∀ y ∈ lx.2.2.names, y.2 = .free → X.env.scope.names.lookup y.1 = some .cell ∨ X.env.scope.names.lookup y.1 = some .free) (hdef : defaultsOf lx.1 X.env = ([], [])) (hd0 : lx.1.defaults.isEmpty = true) : DE X w e (sLam k) := by
  obtain ⟨pos, he⟩ := lam_of hi
  rw [hx] at he
  rw [he]
  exact de_lam0 TB hcode hP hq hL hfree0 hdef hd0
theorem de_lam1E (hi : isLam e = true) (hx : lamX e = lx) (TB : LamX.TabB X.base X.mg c p) (hcode : X.env.code = .ref c) (hP : C.P = p) (hq : C.q = X.env.qual ++ "<lambda>") (hL : C.L k = ⟨lx.1, lx.2.1, lx.2.2, X.env.qual ++ "<lambda>", cloFrom X.env.cells lx.2.2.names []⟩)
    (hfree0 : ∀ y ∈ lx.2.2.names, y.2 = .free → X.env.scope.names.lookup y.1 = some .cell ∨ X.env.scope.names.lookup y.1 = some .free) (hd : ∃ j cp, lx.1.defaults = [.Constant (.int 0) j cp]) (hk0 : lx.1.kw_defaults = []) : DE X w e (sLam k) := by
  obtain ⟨pos, he⟩ := lam_of hi
  obtain ⟨j, cp, hd⟩ := hd
  rw [hx] at he
  rw [he]
  exact de_lam1 TB hcode hP hq hL hfree0 hd hk0
theorem de_lam0EN {jt : Nat} (hi : isLam e = true) (hx : lamX e = lx) (TB : LamX.TabB X.base X.mg c p) (hcode : X.env.code = .ref c) (hP : C.P = p) (hq : C.q = X.env.qual ++ "<lambda>") (hL : C.L k = ⟨lx.1, lx.2.1, lx.2.2, X.env.qual ++ "<lambda>", cloFrom X.env.cells lx.2.2.names []⟩)
    (hfree0 : ∀ y ∈ lx.2.2.names, y.2 = .free → X.env.scope.names.lookup y.1 = some .cell ∨ X.env.scope.names.lookup y.1 = some .free) (hdef : defaultsOf lx.1 X.env = ([], [])) (hd0 : lx.1.defaults.isEmpty = true) : DE X w e (sLamN jt k) := by
  obtain ⟨pos, he⟩ := lam_of hi
  rw [hx] at he
  rw [he]
  exact de_lam0N TB hcode hP hq hL hfree0 hdef hd0
theorem de_lam1EN {jt : Nat} (hi : isLam e = true) (hx : lamX e = lx) (TB : LamX.TabB X.base X.mg c p) (hcode : X.env.code = .ref c) (hP : C.P = p) (hq : C.q = X.env.qual ++ "<lambda>") (hL : C.L k = ⟨lx.1, lx.2.1, lx.2.2, X.env.qual ++ "<lambda>", cloFrom X.env.cells lx.2.2.names []⟩)
    (hfree0 : ∀ y ∈ lx.2.2.names, y.2 = .free → X.env.scope.names.lookup y.1 = some .cell ∨ X.env.scope.names.lookup y.1 = some .free) (hd : ∃ j cp, lx.1.defaults = [.Constant (.int 0) j cp]) (hk0 : lx.1.kw_defaults = []) : DE X w e (sLamN jt k) := by
  obtain ⟨pos, he⟩ := lam_of hi
  obtain ⟨j, cp, hd⟩ := hd
  rw [hx] at he
  rw [he]
  exact de_lam1N TB hcode hP hq hL hfree0 hd hk0
end
/-! ### classes -/
theorem kit_ref {K : PySem.W.Frag} {D C : Addr} {b : Bool} (hd : PySem.W.hasDictIn K C = true) (ht : PySem.W.typeIn K (.ref C) = some (.type "type")) (hs : PySem.W.subIn K (.ref C) (.ref C) = some true) (h : PySem.W.subIn K (.ref D) (.ref C) = some b) : PySem.W.kitOne K (.ref D) (.ref C) = some b := by
  unfold PySem.W.kitOne
  by_cases e : (Value.ref D == Value.ref C) = true
  · rw [if_pos e]
    have e' : D = C := Value.ref.inj (beq_iff_eq.mp e)
    subst e'
    rw [hs] at h
    exact h
  · rw [if_neg e]
    obtain ⟨cd, hc, _⟩ := PySem.W.any_some hd
    have e2 : ((PySem.W.clsIn K C).isSome && PySem.W.typeIn K (.ref C) == some (.type "type")) = true := by rw [hc, ht] <;> rfl
    unfold PySem.W.kitCls
    dsimp only
    rw [if_pos e2]
    exact h
theorem kit_val {K : PySem.W.Frag} {D : Addr} (h : PySem.W.subIn K (.ref D) (.type "ValueError") = some true) : PySem.W.kitOne K (.ref D) (.type "ValueError") = some true := by
  have e : (Value.ref D == Value.type "ValueError") = false := beq_eq_false_iff_ne.mpr (by intro z; cases z)
  have e2 : PySem.W.kitMeta "ValueError" = true := by decide +kernel
  unfold PySem.W.kitOne
  rw [if_neg (by rw [e]; exact Bool.false_ne_true)]
  unfold PySem.W.kitCls
  dsimp only
  rw [if_pos e2]
  exact h
/-- a class of the text -/
structure ClsF (K : PySem.W.Frag) (mg : Str → Option Value) (x : Str) (C : Addr) : Prop where
  g : mg x = some (.ref C)
  d : PySem.W.hasDictIn K C = true
  t : PySem.W.typeIn K (.ref C) = some (.type "type")
  s : PySem.W.subIn K (.ref C) (.ref C) = some true
/-! ### the telling, evaluated -/
@[simp] theorem ev_isE {r : Env} {m : Sto} {a : Addr} {i : Nat} {b : Bool} (h : r[i]? = some (some (.val (.cst (.ref a))))) : sIsE a i b r m = .ok (.bl b) m := by
  unfold sIsE
  rw [h]
  exact if_pos rfl
@[simp] theorem ev_isX {r : Env} {m : Sto} {a dd : Addr} {i : Nat} {b : Bool} : sIsX a dd i b r m = (match r[i]? with
  | some (some (.val (.erx a' dd' _ _))) => if a' = a ∧ dd' = dd then .ok (.bl b) m else .bad
  | _ => .bad) := rfl
@[simp] theorem ev_xf {r : Env} {m : Sto} {a dd : Addr} {i : Nat} {n : Str} : sXf a dd n i r m = (match r[i]? with
  | some (some (.val (.erx a' dd' f k))) => if a' = a ∧ dd' = dd ∧ f = n then .ok (.int k) m else .bad
  | _ => .bad) := rfl
@[simp] theorem ev_idx {l : List D} {d : D} {m : Sto} : fIdx (.lst l) [d] m = if flatD d = true ∧ l.all flatD = true then (match idxD l d with
    | some j => .ok (.int (j : Nat)) m
    | none => .bad) else .bad := rfl
@[simp] theorem ev_ext {i : Nat} {f : SE} {r : Env} {m : Sto} : sExt i f r m = (match r[i]? with | some (some (.lst l)) => bindS r (f r m) fun d m => (match d with | .lst k => if l.length + k.length ≤ LIM then .nx (r.set i (some (.lst (l ++ k)))) m else .bad | _ => .bad) | _ => .bad) := rfl
theorem ev_kind [LamC] {LT : Nat → Option LamT} {KD : Nat → D → Option D} {fa : SE} {r : Env} {m : Sto} : sKind LT KD fa r m = bindR (fa r m) fun d m1 => toldR LT KD r d m1 := rfl
theorem told_ok [C : LamC] {LT : Nat → Option LamT} {KD : Nat → D → Option D} {r : Env} {m1 m2 : Sto} {k : Nat} {q : LamT} {ds : List D} {d2 : D} (h1 : LT k = some q) (h2 : capE q.js r = some ds) (h3 : q.f (lamE q ds) m1 = .ok d2 m2) : toldR LT KD r (.fn k (C.L k)) m1 = .ok (.tup [.str [], .int 0]) m2 := by
  unfold toldR
  dsimp only
  rw [if_pos rfl, h1]
  dsimp only
  rw [h2]
  dsimp only
  rw [h3]
theorem told_exc [C : LamC] {LT : Nat → Option LamT} {KD : Nat → D → Option D} {r : Env} {m1 m2 : Sto} {k c : Nat} {q : LamT} {ds : List D} {v d' : D} (h1 : LT k = some q) (h2 : capE q.js r = some ds) (h3 : q.f (lamE q ds) m1 = .exc c v m2) (h4 : KD c v = some d') : toldR LT KD r (.fn k (C.L k)) m1 = .ok d' m2 := by
  unfold toldR
  dsimp only
  rw [if_pos rfl, h1]
  dsimp only
  rw [h2]
  dsimp only
  rw [h3]
  dsimp only
  rw [h4]
theorem ev_lam [C : LamC] {k : Nat} {r : Env} {m : Sto} (h : m[1]? = some (.tab C.P C.q)) : sLam k r m = .ok (.fn k (C.L k)) m := by
  unfold sLam sLamN
  rw [h]
  exact if_pos ⟨rfl, rfl⟩
theorem ev_lamN [C : LamC] {jt k : Nat} {r : Env} {m : Sto} (h : m[jt]? = some (.tab C.P C.q)) : sLamN jt k r m = .ok (.fn k (C.L k)) m := by
  unfold sLamN
  rw [h]
  exact if_pos ⟨rfl, rfl⟩
/-- the draws' object at 0, the table at 1 -/
theorem Good.tab [C : LamC] {m : Sto} (h : Good [.tab C.P C.q] m) : m[1]? = some (.tab C.P C.q) := by
  obtain ⟨s, cs, p, rfl, _⟩ := h
  rfl
/-! ### the end of a law whose def makes lambdas -/
theorem walkT {l : PySem.W.OpenLaw} {k : Nat} {q : Program} {loose : List Str} {XP : (Str → Option Value) → Heap → Prop} {YP : World → Heap → Prop} {d : DefRec} {K : Params → PySem.W.Frag} (hn : l.most = some 63) (hdf : d.params.defaults = []) (hr : Room k callerA) (hY : ∀ (w : World) (h : Heap), YP w h → (K w.params).In h)
    (F : ∀ (w : World) (mg : Str → Option Value) (fa : Addr) (h : Heap), YP w h → (K w.params).In h → h.Ns mainGlobals mg → mg d.name = some (.ref fa) →
      ∃ (fd : FuncData) (cL pL : Addr), h.get? pL = some { cls := .none, data := .fields #[] } ∧ (K w.params).lookup pL = none ∧ PySem.W.CodeHd h cL pL ∧ (∀ (s : Shared) (u : Value), BindsTo s fd ⟨[u], []⟩ [("_law_script", u)]) ∧
        ∀ base : Heap, (K w.params).In base → base.Ns mainGlobals mg → LamX.TabB base mg cL pL → FnOk l.prog w (K w.params) mg base (L2.CX l.prog w) k fa fd ["_law_script"] (spLawT (K w.params) pL)) :
    PySem.W.WalkO q loose XP YP l.row.toRowW d [] (fun f vs => PySem.call f vs) :=
  LamX.walk_ofTs (n := 63) (k := k) (x := "_law_script") (CX := fun w => L2.CX l.prog w) hn (by decide) hdf hr hY (fun w mg fa h Y KX G hmg => by
    obtain ⟨fd, cL, pL, h1, h2, h3, hb, hF⟩ := F w mg fa h Y KX G hmg
    refine ⟨fd, [(cL, pL)], spLawT (K w.params) pL, ?_, ?_, ?_, hb, fun H a ns hl hbits hH hS => ⟨a, ns, rfl, hl, hS, hH (cL, pL) (by simp), fun _ => rfl⟩, fun base hK hN hTB => hF base hK hN (hTB (cL, pL) (by simp))⟩
    · intro p hp; rw [List.mem_singleton.mp hp]; exact h1
    · intro p hp; rw [List.mem_singleton.mp hp]; exact h2
    · intro p hp; rw [List.mem_singleton.mp hp]; exact h3) fun _ _ _ _ _ ⟨_, _, _, _, _, _, _, _, _, _, _, _, z⟩ => z
end Dl
set_option autoImplicit true
/-! The data layer: a further def that makes lambdas; its table is the store's third object. -/
namespace Dl
open PySem PySem.Spec PyProof.Rows L2 TL
/-- where the further def's table lies -/
class Lam2C where
  P : Addr
  q : Str
instance : Inhabited LamD := ⟨⟨⟨[], [], none, [], [], none, []⟩, .Constant .none 0 ⟨0, 0, 0, 0⟩, default, "", []⟩⟩
noncomputable section
open Classical in
/-- what a def comes to that makes lambdas, whatever cells they capture -/
def indF [C2 : Lam2C] (N : List Str) (b : LamC → SS) : Fd := fun ds m => if h : ∃ R : R D, ∀ C : LamC, C.P = C2.P → C.q = C2.q → fD N (b C) ds m = R then h.choose else .bad
end
theorem indF_ok [C2 : Lam2C] {N : List Str} {b : LamC → SS} (C : LamC) (hP : C.P = C2.P) (hq : C.q = C2.q) (ds : List D) (m : Sto) : indF N b ds m = .bad ∨ indF N b ds m = fD N (b C) ds m := by
  unfold indF
  by_cases h : ∃ R : R D, ∀ C : LamC, C.P = C2.P → C.q = C2.q → fD N (b C) ds m = R
  · rw [dif_pos h]
    exact .inr (h.choose_spec C hP hq).symm
  · rw [dif_neg h]
    exact .inl rfl
theorem indF_eq [C2 : Lam2C] {N : List Str} {b : LamC → SS} {ds : List D} {m : Sto} {R : R D} (h : ∀ C : LamC, C.P = C2.P → C.q = C2.q → fD N (b C) ds m = R) : indF N b ds m = R := by
  have hx : ∃ R : Dl.R D, ∀ C : LamC, C.P = C2.P → C.q = C2.q → fD N (b C) ds m = R := ⟨R, h⟩
  unfold indF
  rw [dif_pos hx]
  have C0 : LamC := ⟨fun _ => default, C2.P, C2.q⟩
  exact (hx.choose_spec ⟨fun _ => default, C2.P, C2.q⟩ rfl rfl).symm.trans (h ⟨fun _ => default, C2.P, C2.q⟩ rfl rfl)
/-- a def that makes lambdas: its code object is known -/
structure DefIsT (K : PySem.W.Frag) (mg : Str → Option Value) (base : Heap) (x : Str) (st : Stmt) (p : Addr) : Prop where
  ex : ∃ (f c : Addr) (oc kV doc pm ct : Value) (od an : Option Addr) (osl : Array (Option Value)), K.lookup f = some ⟨oc, od, .func (PySem.W.fnOf x x (defArgs st) (defBody st) (defScope st) .none kV doc pm an (.ref c) ct), osl⟩ ∧
    PySem.W.codeIn K (.ref c) x = true ∧ PySem.W.keepIn K (.ref f) = true ∧ mg x = some (.ref f) ∧ LamX.TabB base mg c p
theorem Cal.lam {P : Program} {w : World} {K : PySem.W.Frag} {mg : Str → Option Value} {base : Heap} {k : Nat} {x : Str} {st : Stmt} {N ps : List Str} {t : Tf} {p : Addr} {φ : Fd} (D : DefIsT K mg base x st p) (S : FnScope N ps (defScope st)) (hb : BindsOk st x ps)
    (hbody : ∀ (f c : Addr) (TB : LamX.TabB base mg c p) (A : Around) (outer : List PySem.Env) (s : Shared) (H : Hp) (E : XK), Room k (A.deeper (envOfC x (defScope st) s.heap.objs.size f (.ref c))) →
      ∃ b : SS, DSs (cxOf (L2.CX P w) P w K mg base N x (defScope st) f (.ref c) A outer s H E) (t.wi E) (defBody st) b ∧ ∀ ds m, ds.length = ps.length → φ ds m = .bad ∨ φ ds m = fD N b ds m) :
    Cal P w K mg base (k + 1) x ps.length t φ := by
  obtain ⟨f, c, oc, kV, doc, pm, ct, od, an, osl, lk, hcd, hk, hm, TB⟩ := D.ex
  refine ⟨f, _, ps, fn_of lk hcd S (fun vs H Q E h => h.1) (fun A outer s H vs Q E hr h => ?_), hm, hk, (fun_mk (st := st) lk hcd hk).binds hb⟩
  obtain ⟨b, hd, hi⟩ := hbody f c TB A outer s H E hr
  refine ⟨_, hd, ?_⟩
  obtain ⟨hl, x, m, ds, R, p, q⟩ := h
  rcases hi ds m (by rw [p.length]; exact hl) with e | e
  · rw [e] at q
    exact q.elim
  · rw [e] at q
    exact ⟨x, _, m, R.start p, FinS.of_call rfl R q⟩
/-! ### the law's own def beside it -/
def spLawT2 (K : PySem.W.Frag) (p p2 : Addr) : Sp := fun vs H Q _ => ∃ (a : Addr) (ns : List Int), vs = [.ref a] ∧ ns.length ≤ 63 ∧ SqL K H a (ns.map V.int) ∧ H p = some (.tbl #[]) ∧ H p2 = some (.tbl #[]) ∧ p ≠ p2 ∧ ∀ H', Q (.bl true) H'
def LawOkT2 (N : List Str) (seed : Int) (g : LamC → Lam2C → SS) : Prop := ∀ (C : LamC) (C2 : Lam2C) (a : Addr) (ns : List Int), ns.length ≤ 63 → ∃ m, g C C2 (lawE N a) [.drw (mixS ns seed) ns 0, .tab C.P C.q, .tab C2.P C2.q] = .rt (.bl true) m
theorem tab_ob {pw : PWd} {F : Hp} {io : List Addr} {H : Hp} {p : Addr} {q : Str} (h : H p = some (.tbl #[])) : ObjR pw F io H (.tab p q) p [p] := by
  refine .tab (ps := #[]) h True.intro fun pos cv hc => ?_
  have z : codeAmong pos [] = some cv := hc
  simp [codeAmong] at z
theorem law_startT2 {pw : PWd} {K : PySem.W.Frag} {w : Wi} {N : List Str} {seed : Int} {g : LamC → Lam2C → SS} (h : LawOkT2 N seed g) (h2 : 2 ≤ N.length) (C : LamC) (C2 : Lam2C) {vs : List V} {H : Hp} {Q : VK} {E : XK} {We : L2.St → XK} (hs : spLawT2 K C.P C2.P vs H Q E) :
    tSeq (tAsg (tCallS (spMix K) We (tCons (tVar 0) (tCons (tC (.int seed)) tNil))) (L2.gName 1)) (rdS pw w (g C C2)) { nx := fun _ H' => Q .non H', rt := Q } (L2.start N vs) H := by
  obtain ⟨a, ns, rfl, hl, hS, hP, hP2, hne, q⟩ := hs
  have e0 : L2.start N [.ref a] = some (.ref a) :: none :: List.replicate (N.length - 2) none := by
    unfold L2.start
    obtain ⟨k, hk⟩ : ∃ k, N.length = k + 2 := ⟨N.length - 2, by omega⟩
    rw [hk]
    rfl
  rw [e0]
  refine ⟨_, rfl, a, ns, seed, rfl, hS, fun b p hb hp hpb => ?_⟩
  obtain ⟨m, em⟩ := h C C2 a ns hl
  have nb : b ≠ C.P := fun z => by rw [z, hP] at hb; cases hb
  have np : p ≠ C.P := fun z => by rw [z, hP] at hp; cases hp
  have nb2 : b ≠ C2.P := fun z => by rw [z, hP2] at hb; cases hb
  have np2 : p ≠ C2.P := fun z => by rw [z, hP2] at hp; cases hp
  obtain ⟨H', hH⟩ : ∃ H', H' = upd (upd H b (.lst (ns.map V.int))) p (.lst [.int (mixS ns seed), .ref b, .int 0]) := ⟨_, rfl⟩
  have hpb' : H' p = some (.lst [.int (mixS ns seed), .ref b, .int 0]) := by rw [hH, upd_same]
  have hbb : H' b = some (.lst (ns.map V.int)) := by rw [hH, upd_ne (Ne.symm hpb), upd_same]
  have hPP : H' C.P = some (.tbl #[]) := by rw [hH, upd_ne (Ne.symm np), upd_ne (Ne.symm nb), hP]
  have hPP2 : H' C2.P = some (.tbl #[]) := by rw [hH, upd_ne (Ne.symm np2), upd_ne (Ne.symm nb2), hP2]
  show rdS pw w (g C C2) _ (some (.ref a) :: some (.ref p) :: List.replicate (N.length - 2) none) _
  rw [← hH]
  refine ⟨⟨fun _ => none, [p, C.P, C2.P], [], [p, b, C.P, C2.P]⟩, lawE N a, [.drw (mixS ns seed) ns 0, .tab C.P C.q, .tab C2.P C2.q], ⟨fun c o z => (by cases z), ?_, Stos.cons (A := [C.P, C2.P]) (ObjR.drw hpb' hbb) (Stos.cons (A := [C2.P]) (tab_ob hPP) (Stos.cons (A := []) (tab_ob hPP2) .nil)), ?_, fun _ _ => rfl⟩, ?_⟩
  · refine Vars.cons (A0 := []) (.val (.cst _)) (Vars.cons (A0 := []) (A := []) (.val (.obj rfl)) ?_)
    generalize N.length - 2 = k
    induction k with
    | zero => exact .nil
    | succ k ih => exact .skip ih
  · show ([] ++ [p, b, C.P, C2.P]).Nodup
    simp [hpb, nb, np, nb2, np2, hne]
  · rw [em]
    intro v y H2 _ rp _
    cases rp
    exact q H2
section
variable {P : Program} {w : World} {K : PySem.W.Frag} {mg : Str → Option Value} {base : Heap} {k : Nat} {x : Str} {st : Stmt} {N ps : List Str}
theorem law_fnT2 {f c p p2 : Addr} {q2 lx : Str} {seed : Int} {g : LamC → Lam2C → SS} {t : Tf} {kV doc pm ct oc : Value} {an od : Option Addr} {osl : Array (Option Value)} {Lf : Str → List (Str × Addr) → Nat → LamD}
    (lk : K.lookup f = some ⟨oc, od, .func (PySem.W.fnOf "law" "law" (defArgs st) (defBody st) (defScope st) .none kV doc pm an (.ref c) ct), osl⟩) (hcd : PySem.W.codeIn K (.ref c) "law" = true) (S : FnScope N [lx] (defScope st)) (h : LawOkT2 N seed g) (h2 : 2 ≤ N.length)
    (hbody : ∀ (A : Around) (outer : List PySem.Env) (s : Shared) (H : Hp) (E : XK), Room k (A.deeper (envOfC "law" (defScope st) s.heap.objs.size f (.ref c))) → PSs (cxOf (L2.CX P w) P w K mg base N "law" (defScope st) f (.ref c) A outer s H E) (defBody st) (tSeq (tAsg (tCallS (spMix K) (WE (t.wi E).W) (tCons (tVar 0) (tCons (tC (.int seed)) tNil))) (L2.gName 1)) (rdS (P, w, mg) (t.wi E) (g ⟨Lf ((envOfC "law" (defScope st) s.heap.objs.size f (.ref c)).qual ++ "<lambda>") (envOfC "law" (defScope st) s.heap.objs.size f (.ref c)).cells, p, (envOfC "law" (defScope st) s.heap.objs.size f (.ref c)).qual ++ "<lambda>"⟩ ⟨p2, q2⟩)))) :
    FnOk P w K mg base (L2.CX P w) (k + 1) f (PySem.W.fnOf "law" "law" (defArgs st) (defBody st) (defScope st) .none kV doc pm an (.ref c) ct) [lx] (spLawT2 K p p2) :=
  fn_of lk hcd S (fun vs H Q E h => by
    obtain ⟨a, ns, rfl, _⟩ := h
    rfl) fun A outer s H vs Q E hr hs => ⟨_, hbody A outer s H E hr, law_startT2 h h2 ⟨Lf ((envOfC "law" (defScope st) s.heap.objs.size f (.ref c)).qual ++ "<lambda>") (envOfC "law" (defScope st) s.heap.objs.size f (.ref c)).cells, p, (envOfC "law" (defScope st) s.heap.objs.size f (.ref c)).qual ++ "<lambda>"⟩ ⟨p2, q2⟩ hs⟩
end
theorem walkT2 {l : PySem.W.OpenLaw} {k : Nat} {q : Program} {loose : List Str} {XP : (Str → Option Value) → Heap → Prop} {YP : World → Heap → Prop} {d : DefRec} {K : Params → PySem.W.Frag} (hn : l.most = some 63) (hdf : d.params.defaults = []) (hr : Room k callerA) (hY : ∀ (w : World) (h : Heap), YP w h → (K w.params).In h)
    (F : ∀ (w : World) (mg : Str → Option Value) (fa : Addr) (h : Heap), YP w h → (K w.params).In h → h.Ns mainGlobals mg → mg d.name = some (.ref fa) →
      ∃ (fd : FuncData) (cL pL c2 p2 : Addr), h.get? pL = some { cls := .none, data := .fields #[] } ∧ (K w.params).lookup pL = none ∧ PySem.W.CodeHd h cL pL ∧ h.get? p2 = some { cls := .none, data := .fields #[] } ∧ (K w.params).lookup p2 = none ∧ PySem.W.CodeHd h c2 p2 ∧ pL ≠ p2 ∧ (∀ (s : Shared) (u : Value), BindsTo s fd ⟨[u], []⟩ [("_law_script", u)]) ∧
        ∀ base : Heap, (K w.params).In base → base.Ns mainGlobals mg → LamX.TabB base mg cL pL → LamX.TabB base mg c2 p2 → FnOk l.prog w (K w.params) mg base (L2.CX l.prog w) k fa fd ["_law_script"] (spLawT2 (K w.params) pL p2)) :
    PySem.W.WalkO q loose XP YP l.row.toRowW d [] (fun f vs => PySem.call f vs) :=
  LamX.walk_ofTs (n := 63) (k := k) (x := "_law_script") (CX := fun w => L2.CX l.prog w) hn (by decide) hdf hr hY (fun w mg fa h Y KX G hmg => by
    obtain ⟨fd, cL, pL, c2, p2, h1, h2, h3, g1, g2, g3, hne, hb, hF⟩ := F w mg fa h Y KX G hmg
    refine ⟨fd, [(cL, pL), (c2, p2)], spLawT2 (K w.params) pL p2, ?_, ?_, ?_, hb, fun H a ns hl hbits hH hS => ⟨a, ns, rfl, hl, hS, hH (cL, pL) (by simp), hH (c2, p2) (by simp), hne, fun _ => rfl⟩, fun base hK hN hTB => hF base hK hN (hTB (cL, pL) (by simp)) (hTB (c2, p2) (by simp))⟩
    · intro p hp
      simp only [List.mem_cons, List.not_mem_nil, or_false] at hp
      rcases hp with rfl | rfl
      · exact h1
      · exact g1
    · intro p hp
      simp only [List.mem_cons, List.not_mem_nil, or_false] at hp
      rcases hp with rfl | rfl
      · exact h2
      · exact g2
    · intro p hp
      simp only [List.mem_cons, List.not_mem_nil, or_false] at hp
      rcases hp with rfl | rfl
      · exact h3
      · exact g3) fun _ _ _ _ _ ⟨_, _, _, _, _, _, _, _, _, _, _, _, z⟩ => z
end Dl
set_option autoImplicit true
/-! The data layer: instances with fields: looked at, written. -/
namespace Dl
open PySem PySem.Spec PyProof.Rows L2 TL
def putC (f : Str) (c : Cell) : List (Str × Cell) → List (Str × Cell)
  | [] => [(f, c)]
  | (g, x) :: r => if g = f then (g, c) :: r else (g, x) :: putC f c r
section
variable {pw : PWd} {F : Hp} {io : List Addr} {H : Hp}
theorem lookup_cons_eq {α : Type} {f g : Str} {x : α} {r : List (Str × α)} (h : g = f) : List.lookup f ((g, x) :: r) = some x := by
  subst h
  simp [List.lookup]
theorem lookup_cons_ne {α : Type} {f g : Str} {x : α} {r : List (Str × α)} (h : g ≠ f) : List.lookup f ((g, x) :: r) = List.lookup f r := by
  have e : (f == g) = false := by simpa using fun z : f = g => h z.symm
  simp [List.lookup, e]
theorem Flds.none {f : Str} : ∀ {fs : List (Str × Cell)} {gs : List (Str × V)} {A : List Addr}, Flds pw F io H fs gs A → fs.lookup f = none → gs.lookup f = none
  | _, _, _, .nil, _ => rfl
  | _, _, _, .cons (n := n) c t, h => by
    by_cases e : n = f
    · rw [lookup_cons_eq e] at h; cases h
    · rw [lookup_cons_ne e] at h ⊢
      exact Flds.none t h
theorem Flds.len : ∀ {fs : List (Str × Cell)} {gs : List (Str × V)} {A : List Addr}, Flds pw F io H fs gs A → fs.length = gs.length
  | _, _, _, .nil => rfl
  | _, _, _, .cons _ t => congrArg (· + 1) (Flds.len t)
/-- the field f apart from the others -/
theorem Flds.at (f : Str) : ∀ {fs : List (Str × Cell)} {gs : List (Str × V)} {A : List Addr}, Flds pw F io H fs gs A → ∃ A0 A', A.Perm (A0 ++ A') ∧
    (∀ c, fs.lookup f = some c → ∃ v, gs.lookup f = some v ∧ CellR pw F io H c v A0) ∧
    ∀ {F' io' H'} (_ : Sub F F') (_ : Pfx io io') (_ : Keep A' H H') {c' v' A1}, CellR pw F' io' H' c' v' A1 → ∃ A2, A2.Perm (A1 ++ A') ∧ Flds pw F' io' H' (putC f c' fs) (putF f v' gs) A2
  | _, _, _, .nil => ⟨[], [], List.Perm.refl _, fun c e => by simp [List.lookup] at e, fun hF hi k => fun {c' v' A1} hc => ⟨A1 ++ [], List.Perm.refl _, .cons hc .nil⟩⟩
  | _, _, _, .cons (n := n) (A0 := B0) (A := B) c t => by
    by_cases e : n = f
    · refine ⟨B0, B, List.Perm.refl _, fun c' h => ?_, fun hF hi k => fun {c' v' A1} hc => ⟨A1 ++ B, List.Perm.refl _, ?_⟩⟩
      · rw [lookup_cons_eq e] at h ⊢
        cases h
        exact ⟨_, rfl, c⟩
      · unfold putC putF
        rw [if_pos e, if_pos e]
        exact .cons hc (t.mono hF hi k)
    · obtain ⟨A0, A', p, g, w⟩ := Flds.at f t
      refine ⟨A0, B0 ++ A', ?_, fun c' h => ?_, fun hF hi k => fun {c' v' A1} hc => ?_⟩
      · refine (List.Perm.append_left B0 p).trans ?_
        rw [← List.append_assoc, ← List.append_assoc]
        exact List.Perm.append_right _ List.perm_append_comm
      · rw [lookup_cons_ne e] at h ⊢
        exact g c' h
      · obtain ⟨A3, p3, w3⟩ := w hF hi (fun b hb => k b (List.mem_append_right _ hb)) hc
        refine ⟨B0 ++ A3, ?_, ?_⟩
        · refine (List.Perm.append_left B0 p3).trans ?_
          rw [← List.append_assoc, ← List.append_assoc]
          exact List.Perm.append_right _ List.perm_append_comm
        · unfold putC putF
          rw [if_neg e, if_neg e]
          exact .cons (c.mono hF hi fun b hb => k b (List.mem_append_left _ hb)) w3
end
section
variable {pw : PWd} {x y : Sx pw} {r : Env} {m : Sto} {s : L2.St} {H : Hp}
/-- an instance of the store, apart from the other objects -/
theorem Rel.insAt {n : Nat} {nm : Str} {fs : List (Str × Cell)} (R : Rel x r m s H) (h : m[n]? = some (.ins nm fs)) : ∃ (a dx C : Addr) (gs : List (Str × V)) (A A' : List Addr), x.io[n]? = some a ∧ x.A2.Perm (a :: dx :: A ++ A') ∧ pw.2.2 nm = some (.ref C) ∧ H a = some (.ins C dx gs) ∧ H dx = some (.own a) ∧ Flds pw x.F x.io H fs gs A ∧
    ∀ {F' io' H'} (_ : Sub x.F F') (_ : Pfx x.io io') (_ : Keep A' H H') {o' A1}, ObjR pw F' io' H' o' a A1 → ∃ A2, A2.Perm (A1 ++ A') ∧ Stos pw F' io' H' (m.set n o') x.io A2 := by
  obtain ⟨a, A0, A', e1, pm, ob, wr⟩ := R.sto.at h
  cases ob with
  | ins e0 h1 h2 t => exact ⟨a, _, _, _, _, A', e1, pm, e0, h1, h2, t, wr⟩
/-- a field is set: the instance's record is written, what was its own may be left, A1 is new -/
theorem Rel.setFld {n : Nat} {nm f : Str} {fs : List (Str × Cell)} {c' : Cell} {v' : V} {A1 : List Addr} {x0 : Sx pw} {H0 : Hp} (R : Rel x r m s H) (st0 : StE x0 H0 x H) (hn : ∀ b ∈ A1, H0 b = none) (h : m[n]? = some (.ins nm fs)) (hc : CellR pw x.F x.io H c' v' A1) (hA : ∀ b ∈ A1, x.F b = none ∧ b ∉ x.A1 ++ x.A2) :
    ∃ (a dx C : Addr) (gs : List (Str × V)), x.io[n]? = some a ∧ pw.2.2 nm = some (.ref C) ∧ H a = some (.ins C dx gs) ∧ gs.length = fs.length ∧
      ∃ y : Sx pw, Rel y r (m.set n (.ins nm (putC f c' fs))) s (upd H a (.ins C dx (putF f v' gs))) ∧ StS x0 H0 y (upd H a (.ins C dx (putF f v' gs))) := by
  obtain ⟨a, dx, C, gs, A, A', e1, pm, e0, h1, h2, t, wr⟩ := R.insAt h
  refine ⟨a, dx, C, gs, e1, e0, h1, t.len.symm, ?_⟩
  obtain ⟨A0, B', pA, g, wF⟩ := t.at f
  have nd2 : (a :: dx :: A ++ A').Nodup := (pm.nodup_iff).mp (List.nodup_append.mp R.nd).2.1
  have haA2 : a ∈ x.A2 := pm.mem_iff.mpr (by simp)
  have haF : x.F a = none := R.nF a (List.mem_append_right _ haA2)
  have nda : a ∉ dx :: A ++ A' := (List.nodup_cons.mp nd2).1
  obtain ⟨H', hH⟩ : ∃ H', H' = upd H a (.ins C dx (putF f v' gs)) := ⟨_, rfl⟩
  rw [← hH]
  have up : ∀ b, b ≠ a → H' b = H b := fun b hb => by rw [hH, upd_ne hb]
  have neA : ∀ b ∈ A, b ≠ a := fun b hb e => nda (by rw [← e]; simp [hb])
  have neA' : ∀ b ∈ A', b ≠ a := fun b hb e => nda (by rw [← e]; simp [hb])
  have neA1 : ∀ b ∈ A1, b ≠ a := fun b hb e => (hA b hb).2 (by rw [e]; exact List.mem_append_right _ haA2)
  have hdx : dx ≠ a := fun e => nda (by rw [← e]; simp)
  have subB : ∀ b ∈ B', b ∈ A := fun b hb => pA.mem_iff.mpr (List.mem_append_right _ hb)
  obtain ⟨A3, p3, t3⟩ := wF (F' := x.F) (io' := x.io) (H' := H') (.refl _) (.refl _) (fun b hb o e => by rw [up b (neA b (subB b hb))]; exact e) (hc.mono (.refl _) (.refl _) fun b hb o e => by rw [up b (neA1 b hb)]; exact e)
  obtain ⟨A4, p4, st4⟩ := wr (F' := x.F) (io' := x.io) (H' := H') (.refl _) (.refl _) (fun b hb o e => by rw [up b (neA' b hb)]; exact e) (ObjR.ins (a := a) (dx := dx) (C := C) (x := nm) e0 (by rw [hH, upd_same]) (by rw [up dx hdx]; exact h2) t3)
  have in3 : ∀ b, b ∈ A3 ↔ b ∈ A1 ∨ b ∈ B' := fun b => by rw [p3.mem_iff, List.mem_append]
  have in4 : ∀ b, b ∈ A4 ↔ b = a ∨ b = dx ∨ b ∈ A3 ∨ b ∈ A' := fun b => by rw [p4.mem_iff]; simp [or_assoc]
  have old : ∀ b ∈ A4, b ∈ x.A2 ∨ b ∈ A1 := fun b hb => by
    rcases (in4 b).mp hb with e | e | e | e
    · exact .inl (pm.mem_iff.mpr (by simp [e]))
    · exact .inl (pm.mem_iff.mpr (by simp [e]))
    · rcases (in3 b).mp e with e | e
      · exact .inr e
      · exact .inl (pm.mem_iff.mpr (by simp [subB b e]))
    · exact .inl (pm.mem_iff.mpr (by simp [e]))
  have ndA1 : A1.Nodup := by
    cases hc with
    | val _ => exact List.nodup_nil
    | lst _ _ => simp
    | dct _ _ => simp
  have nd4 : A4.Nodup := by
    refine (p4.nodup_iff).mpr ?_
    have q1 : (dx :: A ++ A').Nodup := (List.nodup_cons.mp nd2).2
    have q2 : (A ++ A').Nodup := (List.nodup_cons.mp q1).2
    have nA : (A0 ++ B').Nodup := (pA.nodup_iff).mp (List.nodup_append.mp q2).1
    have n3 : A3.Nodup := (p3.nodup_iff).mpr (List.nodup_append.mpr ⟨ndA1, (List.nodup_append.mp nA).2.1, fun b hb c hc e => (hA b hb).2 (by subst e; exact List.mem_append_right _ (pm.mem_iff.mpr (by simp [subB _ hc])))⟩)
    have o3 : ∀ b ∈ A3, b ∈ A ∨ b ∈ A1 := fun b hb => ((in3 b).mp hb).elim .inr fun e => .inl (subB b e)
    have ndx : dx ∉ A ++ A' := (List.nodup_cons.mp q1).1
    refine List.nodup_cons.mpr ⟨fun hm => ?_, List.nodup_cons.mpr ⟨fun hm => ?_, List.nodup_append.mpr ⟨n3, (List.nodup_append.mp q2).2.1, fun b hb c hc e => ?_⟩⟩⟩
    · rcases List.mem_cons.mp hm with e | hm
      · exact hdx e.symm
      · rcases List.mem_append.mp hm with hm | hm
        · rcases o3 a hm with e | e
          · exact neA a e rfl
          · exact neA1 a e rfl
        · exact neA' a hm rfl
    · rcases List.mem_append.mp hm with hm | hm
      · rcases o3 dx hm with e | e
        · exact ndx (List.mem_append_left _ e)
        · exact (hA dx e).2 (List.mem_append_right _ (pm.mem_iff.mpr (by simp)))
      · exact ndx (List.mem_append_right _ hm)
    · subst e
      rcases o3 b hb with e | e
      · exact (List.nodup_append.mp q2).2.2 b e b hc rfl
      · exact (hA b e).2 (List.mem_append_right _ (pm.mem_iff.mpr (by simp [hc])))
  have na1 : ∀ b ∈ x.A1, b ≠ a := fun b hb e => (List.nodup_append.mp R.nd).2.2 b hb a haA2 e
  refine ⟨x.w2 A4, ⟨fun b o e => ?_, R.vars.mono (.refl _) (.refl _) fun b hb o e => by rw [up b (na1 b hb)]; exact e, st4, ?_, fun b hb => ?_⟩, ⟨⟨st0.st.F, st0.st.io, fun b o e n => ?_, fun b e => st0.st.there b ?_, fun b e1 e2 => (st0.st.newF b e1 e2).imp id fun z => List.mem_append_right _ z, fun b hb => ?_⟩, fun b hb => .inl (by rw [← st0.a1]; exact hb)⟩⟩
  · rw [up b (ne_of_none (H := x.F) e haF)]
    exact R.sub _ _ e
  · refine List.nodup_append.mpr ⟨(List.nodup_append.mp R.nd).1, nd4, fun b hb c hc e => ?_⟩
    subst e
    rcases old b hc with e | e
    · exact (List.nodup_append.mp R.nd).2.2 b hb b e rfl
    · exact (hA b e).2 (List.mem_append_left _ hb)
  · rcases List.mem_append.mp hb with e | e
    · exact R.nF b (List.mem_append_left _ e)
    · rcases old b e with e | e
      · exact R.nF b (List.mem_append_right _ e)
      · exact (hA b e).1
  · have hb : b ≠ a := fun e' => by
      rcases st0.st.newA a haA2 with z | z
      · exact n (by rw [e']; exact List.mem_append_right _ z)
      · rw [e', z] at e
        cases e
    rw [up b hb]
    exact st0.st.keep b o e fun z => n (List.mem_append_right _ z)
  · by_cases hb : b = a
    · rw [hb, hH, upd_same] at e
      cases e
    · rw [up b hb] at e
      exact e
  · exact (old b hb).elim (st0.st.newA b) fun z => .inr (hn b z)
end

/-! ### a class of the text whose instances have fields -/
structure ClsS (K : PySem.W.Frag) (mg : Str → Option Value) (nm : Str) (C : Addr) : Prop where
  g : mg nm = some (.ref C)
  c : L2.Cls K C
/-- the field f of the object at slot i: a value -/
def fldAt (nm : Str) (i : Nat) (f : Str) (r : Env) (m : Sto) : Option (Nat × Cell) := match r[i]? with
  | some (some (.val (.obj n))) => match m[n]? with
    | some (.ins nm' fs) => if nm' = nm then (fs.lookup f).map fun c => (n, c) else none
    | _ => none
  | _ => none
def sFld (nm : Str) (i : Nat) (f : Str) : SE := fun r m => match fldAt nm i f r m with
  | some (_, .val d) => .ok d m
  | _ => .bad
section
variable {X : Cx} {w : Wi} {x : Sx (pwOf X)} {r : Env} {m : Sto} {s : L2.St} {H : Hp} {nm f : Str} {i n : Nat} {c : Cell} {C : Addr}
theorem fld_inv (h : fldAt nm i f r m = some (n, c)) : r[i]? = some (some (.val (.obj n))) ∧ ∃ fs, m[n]? = some (.ins nm fs) ∧ fs.lookup f = some c := by
  unfold fldAt at h
  split at h
  · rename_i n' hr
    split at h
    · rename_i nm' fs hm
      by_cases e : nm' = nm
      · rw [if_pos e] at h
        subst e
        cases hf : fs.lookup f with
        | none => rw [hf] at h; cases h
        | some c' =>
          rw [hf] at h
          cases h
          exact ⟨hr, fs, hm, hf⟩
      · rw [if_neg e] at h
        cases h
    · cases h
  · cases h
/-- what stands behind a field -/
theorem fld_at (S : ClsS X.K X.mg nm C) (R : Rel x r m s H) (h : fldAt nm i f r m = some (n, c)) : ∃ (a dx : Addr) (gs : List (Str × V)) (v : V) (A0 : List Addr), s[i]? = some (some (.ref a)) ∧ H a = some (.ins C dx gs) ∧ gs.lookup f = some v ∧ CellR (pwOf X) x.F x.io H c v A0 ∧ ∀ b ∈ A0, b ∈ x.A2 := by
  obtain ⟨hr, fs, hm, hf⟩ := fld_inv h
  obtain ⟨v, A0, h1, h2, _⟩ := slot_at R hr
  cases h2 with
  | val h2 =>
    cases h2 with
    | @obj _ a hio =>
      obtain ⟨a', dx, C', gs, A, A', e1, pm, e0, g1, g2, t, _⟩ := R.insAt hm
      rw [hio] at e1
      cases e1
      have eC : C' = C := by
        have e0 : X.mg nm = some (.ref C') := e0
        rw [S.g] at e0
        cases e0
        rfl
      subst eC
      obtain ⟨A0, B', pA, g, _⟩ := t.at f
      obtain ⟨v, l, hc⟩ := g _ hf
      exact ⟨a, dx, gs, v, A0, h1, g1, l, hc, fun b hb => pm.mem_iff.mpr (by simp [pA.mem_iff.mpr (List.mem_append_left _ hb)])⟩
theorem de_fld {e : Expr} {pos : Pos} (S : ClsS X.K X.mg nm C) (hno : NoAttr X.K C f) (he : PE X e (tVar i)) (hb : attributeBase e f X.env (eval e X.env) = eval e X.env := by rfl) : DE X w (.Attribute e f pos) (sFld nm i f) :=
  PE.imp (pe_fld he hb) fun s H Q ⟨x, r, m, R, q⟩ => by
    unfold sFld at q
    split at q
    · rename_i n d h
      obtain ⟨a, dx, gs, v, A0, h1, g1, l, hc, _⟩ := fld_at S R h
      cases hc with
      | val rp => exact ⟨_, h1, a, C, dx, gs, v, rfl, g1, S.c, hno, l, q _ x H R rp .refl⟩
    · exact q.elim
end
/-! ### self.f = e -/
def sSetF (nm : Str) (i : Nat) (f : Str) (fc : SCe) : SS := fun r m => bindS r (fc r m) fun c m => match r[i]? with
  | some (some (.val (.obj n))) => match m[n]? with
    | some (.ins nm' fs) => if nm' = nm ∧ fs.length < 900 then .nx r (m.set n (.ins nm' (putC f c fs))) else .bad
    | _ => .bad
  | _ => .bad
section
variable {X : Cx} {w : Wi} {nm f : Str} {i : Nat} {C : Addr}
theorem ds_setF {o e : Expr} {fc : SCe} {pos pos' : Pos} (S : ClsS X.K X.mg nm C) (hno : NoAttr X.K C f) (ho : PE X o (tVar i)) (he : DC X w e fc) (hs : swapsWith e (some (.Attribute o f pos')) pos.line X.env = pure false := by rfl) :
    DS X w (.Assign [.Attribute o f pos'] e pos) (sSetF nm i f fc) := PS.imp (L2.ps_fld ho he hs) fun E s H ⟨x, r, m, R, q⟩ => by
  refine rdC_bindS R q fun c m1 v y H1 A R1 hc hA st q1 => ?_
  split at q1
  · rename_i n hr
    split at q1
    · rename_i nm' fs hm
      by_cases e1 : nm' = nm ∧ fs.length < 900
      · rw [if_pos e1] at q1
        obtain ⟨rfl, hl⟩ := e1
        obtain ⟨v', A0, h1, h2, _⟩ := slot_at R1 hr
        cases h2 with
        | val h2 =>
          cases h2 with
          | @obj _ a hio =>
            obtain ⟨a', dx, C', gs, e2, e0, g1, hgl, z, R2, st2⟩ := R1.setFld (f := f) st (fun b hb => (hA b hb).2.2) hm hc fun b hb => ⟨(hA b hb).1, (hA b hb).2.1⟩
            rw [hio] at e2
            cases e2
            have eC : C' = C := by
              have e0 : X.mg nm' = some (.ref C') := e0
              rw [S.g] at e0
              cases e0
              rfl
            subst eC
            exact ⟨_, h1, a, C', dx, gs, rfl, g1, S.c, hno, by omega, q1 _ z _ R2 st2⟩
      · rw [if_neg e1] at q1
        exact q1.elim
    · exact q1.elim
  · exact q1.elim
end
end Dl
set_option autoImplicit true
/-! The data layer: expressions that change nothing; a field that is a list of the instance's own. -/
namespace Dl
open PySem PySem.Spec PyProof.Rows L2 TL
structure StQ (x : Sx pw) (H : Hp) (y : Sx pw) (H' : Hp) : Prop where
  st : Stp [] x H y H'
  a1 : y.A1 = x.A1
  a2 : y.A2 = x.A2
section
variable {x y z : Sx pw} {r : Env} {m : Sto} {s : L2.St} {H H1 H2 : Hp}
theorem StQ.refl : StQ x H x H := ⟨.refl, rfl, rfl⟩
theorem StQ.trans (a : StQ x H y H1) (b : StQ y H1 z H2) : StQ x H z H2 := by
  refine ⟨⟨a.st.F.trans b.st.F, a.st.io.trans b.st.io, fun c o e _ => b.st.keep c o (a.st.keep c o e (by simp)) (by simp), fun c e => a.st.there c (b.st.there c e), fun c e1 e2 => ?_, fun c hc => .inl (by rw [← a.a2, ← b.a2]; exact hc)⟩, b.a1.trans a.a1, b.a2.trans a.a2⟩
  by_cases h : y.F c = none
  · rcases b.st.newF c h e2 with q | q
    · exact .inl (a.st.there c q)
    · cases q
  · exact a.st.newF c e1 h
theorem StQ.toE (a : StQ x H y H1) : StE x H y H1 :=
  ⟨⟨a.st.F, a.st.io, fun c o e _ => a.st.keep c o e (by simp), a.st.there, fun c e1 e2 => (a.st.newF c e1 e2).imp id fun q => (by cases q), fun c hc => .inl (by rw [← a.a2]; exact hc)⟩, a.a1⟩
theorem StQ.new {p : Addr} {o : HO} (R : Rel x r m s H) (hp : H p = none) : StQ x H (x.wF (upd x.F p o)) (upd H p o) := by
  have e := StE.new (o := o) R hp
  exact ⟨⟨e.st.F, e.st.io, fun b q h _ => by rw [upd_ne (ne_of_none h hp)]; exact h, e.st.there, fun b h1 h2 => by
    by_cases hb : b = p
    · subst hb; exact .inl hp
    · have h2 : upd x.F p o b ≠ none := h2
      rw [upd_ne hb] at h2
      exact absurd h1 h2, fun b hb => .inl hb⟩, rfl, rfl⟩
end
abbrev Q1 (α : Type) := Env → Sto → Option α
def FinQ {α β : Type} (P : PP pw α β) (x : Sx pw) (r : Env) (m : Sto) (s : L2.St) (H : Hp) (Q : β → Hp → Prop) : Option α → Prop
  | some a => ∀ b y H', Rel y r m s H' → P y H' a b → StQ x H y H' → Q b H'
  | none => False
def rdQ {α β : Type} (P : PP pw α β) (f : Q1 α) (s : L2.St) (H : Hp) (Q : β → Hp → Prop) : Prop := ∃ x r m, Rel x r m s H ∧ FinQ P x r m s H Q (f r m)
abbrev DQ (X : Cx) (e : Expr) (f : Q1 D) : Prop := PE X e (rdQ (PV (pw := pwOf X)) f)
abbrev DQs (X : Cx) (es : List Expr) (g : Q1 (List D)) : Prop := PA X es (rdQ (PL (pw := pwOf X)) g)
def qVar (i : Nat) : Q1 D := fun r _ => match r[i]? with
  | some (some (.val d)) => some d
  | _ => none
def qC (d : D) : Q1 D := fun _ _ => some d
def qAdd (f : Q1 D) (k : Int) : Q1 D := fun r m => match f r m with
  | some (.int i) => some (.int (i + k))
  | _ => none
def qNil : Q1 (List D) := fun _ _ => some []
def qCons (f : Q1 D) (g : Q1 (List D)) : Q1 (List D) := fun r m => match f r m, g r m with
  | some d, some ds => some (d :: ds)
  | _, _ => none
def qTup (g : Q1 (List D)) : Q1 D := fun r m => match g r m with
  | some ds => if ds.length ≤ LIM then some (.tup ds) else none
  | none => none
section
variable {X : Cx} {w : Wi} {e : Expr} {es : List Expr} {f : Q1 D} {g : Q1 (List D)} {pos : Pos}
theorem dq_var {i : Nat} (h : PE X e (tVar i)) : DQ X e (qVar i) := PE.imp h fun s H Q ⟨x, r, m, R, q⟩ => by
  unfold qVar at q
  split at q
  · rename_i d hd
    obtain ⟨v, A0, e1, q1, _⟩ := slot_at R hd
    cases q1 with
    | val rp => exact ⟨v, e1, q v x H R rp .refl⟩
  · exact q.elim
theorem dq_c {v : V} {d : D} (h : PE X e (tC v)) (hr : ∀ F io, Rep F io d v) : DQ X e (qC d) := PE.imp h fun s H Q ⟨x, r, m, R, q⟩ => q v x H R (hr _ _) .refl
theorem dq_int {i : Int} {j : Nat} : DQ X (.Constant (.int i) j pos) (qC (.int i)) := dq_c pe_int fun _ _ => .int i
theorem dq_bl {b : Bool} {j : Nat} : DQ X (.Constant (.bool b) j pos) (qC (.bl b)) := dq_c pe_bl fun _ _ => .bl b
theorem dq_gstrE (l : List Nat) {x y : Str} (hg : Gl X x) (hm : ∃ t, X.mg x = some (.str y t)) (h : y = ⟨l.toArray⟩ := by decide +kernel) (hd : (x == ("__debug__" : Str)) = false := by decide) : DQ X (.Name x pos) (qC (.str l)) := by
  obtain ⟨t, hm⟩ := hm
  exact dq_c (v := .str y) (pe_glob hg hm ⟨t, rfl⟩ hd) fun _ _ => by
    rw [h]
    exact .str l
theorem dq_add {a b : Expr} {k : Int} (ha : DQ X a f) (hb : PE X b (tC (.int k))) (hs : ∀ x y : Sem Value, True := by intros; trivial) : DQ X (.BinOp a .Add b pos) (qAdd f k) := PE.imp (pe_op op_add ha hb) fun s H Q ⟨x, r, m, R, q⟩ => by
  show rdQ PV f s H _
  refine ⟨x, r, m, R, ?_⟩
  unfold qAdd at q
  cases h : f r m with
  | none => rw [h] at q; exact q.elim
  | some d =>
    rw [h] at q
    intro v y H1 R1 p1 st1
    cases d with
    | int i =>
      cases p1
      exact ⟨i, k, rfl, rfl, q _ y H1 R1 (.int _) st1⟩
    | _ => exact q.elim
theorem dqs_nil : DQs X [] qNil := ⟨fun pos pins s σ H Q I ⟨x, r, m, R, q⟩ => pa_nil.run pos pins s σ H Q I (q [] x H R .nil .refl)⟩
theorem dqs_cons (he : DQ X e f) (hr : DQs X es g) (hs : starEach (e :: es) X.env = (false, eval e X.env) :: starEach es X.env := by rfl) : DQs X (e :: es) (qCons f g) := ⟨fun pos pins s σ H Q I ⟨x, r, m, R, q⟩ => (pa_cons he hr hs).run pos pins s σ H Q I (by
  show rdQ PV f σ H _
  refine ⟨x, r, m, R, ?_⟩
  unfold qCons at q
  cases h : f r m with
  | none => rw [h] at q; exact q.elim
  | some d =>
    cases h2 : g r m with
    | none => rw [h, h2] at q; exact q.elim
    | some ds =>
      rw [h, h2] at q
      intro v y H1 R1 p1 st1
      refine ⟨y, r, m, R1, ?_⟩
      rw [h2]
      intro vs z H2 R2 p2 st2
      exact q (v :: vs) z H2 R2 (.cons (p1.mono st2.st.F st2.st.io) p2) (st1.trans st2))⟩
theorem dq_tup {k : Nat} (h : DQs X es g) : DQ X (.Tuple es k pos) (qTup g) := PE.imp (pe_tup h) fun s H Q ⟨x, r, m, R, q⟩ => by
  show rdQ PL g s H _
  refine ⟨x, r, m, R, ?_⟩
  unfold qTup at q
  cases h : g r m with
  | none => rw [h] at q; exact q.elim
  | some ds =>
    rw [h] at q
    dsimp only at q
    intro vs y H1 R1 p1 st1
    by_cases hz : ds.length ≤ LIM
    · rw [if_pos hz] at q
      refine ⟨by rw [← p1.length, ← lim_eq]; exact hz, fun p hp => ?_⟩
      have n := StQ.new (o := .tup vs) R1 hp
      exact q (.ref p) _ _ (R1.new hp) (.tup upd_same (p1.mono n.st.F n.st.io)) (st1.trans n)
    · rw [if_neg hz] at q
      exact q.elim
end
/-- a list field, looked at -/
theorem fld_lst {X : Cx} {x y : Sx (pwOf X)} {r : Env} {m : Sto} {s : L2.St} {H H1 : Hp} {nm f : Str} {C : Addr} {i n : Nat} {l : List D} (S : ClsS X.K X.mg nm C) (R : Rel x r m s H) (h : fldAt nm i f r m = some (n, .lst l)) :
    ∃ (a dx b : Addr) (gs : List (Str × V)) (vs : List V), s[i]? = some (some (.ref a)) ∧ H a = some (.ins C dx gs) ∧ gs.lookup f = some (.ref b) ∧ H b = some (.lst vs) ∧ Reps x.F x.io l vs ∧ b ∈ x.A2 := by
  obtain ⟨a, dx, gs, v, A0, h1, g1, l1, hc, hA⟩ := fld_at S R h
  cases hc with
  | @lst b ds vs hb rp => exact ⟨a, dx, b, gs, vs, h1, g1, l1, hb, rp, hA b (by simp)⟩
/-- self.f[e], f a list -/
def sIxF (nm : Str) (i : Nat) (f : Str) (g : Q1 D) : SE := fun r m => match fldAt nm i f r m, g r m with
  | some (_, .lst l), some (.int k) => (match atI l k with
    | some d => .ok d m
    | none => .bad)
  | _, _ => .bad
/-- self.f[lo:hi], f a list -/
abbrev QO := Q1 (Option Int)
abbrev DQO (X : Cx) (e : Option Expr) (t : QO) : Prop := PO X e (rdQ (pw := pwOf X) (fun _ _ a b => a = b) t)
def qoNone : QO := fun _ _ => some none
def qoSome (f : Q1 D) : QO := fun r m => match f r m with
  | some (.int i) => some (some i)
  | _ => none
def sSlF (nm : Str) (i : Nat) (f : Str) (lo hi : QO) : SE := fun r m => match fldAt nm i f r m, lo r m, hi r m with
  | some (_, .lst l), some a, some b => .ok (.lst (cutL l a b)) m
  | _, _, _ => .bad
section
variable {X : Cx} {w : Wi} {nm f : Str} {i : Nat} {C : Addr} {o e : Expr} {g : Q1 D} {pos apos p2 : Pos}
theorem dqo_none : DQO X none qoNone := ⟨fun pins s σ H Q I ⟨x, r, m, R, q⟩ => po_none.run pins s σ H Q I (q _ x H R rfl .refl)⟩
theorem dqo_some (h : DQ X e g) : DQO X (some e) (qoSome g) := ⟨fun pins s σ H Q I ⟨x, r, m, R, q⟩ => (po_some h).run pins s σ H Q I (by
  refine ⟨x, r, m, R, ?_⟩
  unfold qoSome at q
  cases h : g r m with
  | none => rw [h] at q; exact q.elim
  | some d =>
    rw [h] at q
    intro v y H1 R1 p1 st1
    cases d with
    | int i =>
      cases p1
      exact ⟨i, rfl, q _ y H1 R1 rfl st1⟩
    | _ => exact q.elim)⟩
theorem de_ixF (S : ClsS X.K X.mg nm C) (hno : NoAttr X.K C f) (ho : PE X o (tVar i)) (he : DQ X e g) (hb : attributeBase o f X.env (eval o X.env) = eval o X.env := by rfl) (hs : PlainIx e := by exact fun _ _ => rfl) :
    DE X w (.Subscript (.Attribute o f apos) e pos) (sIxF nm i f g) := PE.imp (pe_ix ix_list (pe_fld ho hb) he hs) fun s H Q ⟨x, r, m, R, q⟩ => by
  unfold sIxF at q
  cases h1 : fldAt nm i f r m with
  | none => rw [h1] at q; exact q.elim
  | some nc =>
    obtain ⟨n, c⟩ := nc
    rw [h1] at q
    cases c with
    | lst l =>
      cases h2 : g r m with
      | none => rw [h2] at q; exact q.elim
      | some d =>
        rw [h2] at q
        cases d with
        | int k =>
          dsimp only at q
          cases h3 : atI l k with
          | none => rw [h3] at q; exact q.elim
          | some d =>
            rw [h3] at q
            obtain ⟨a, dx, b, gs, vs, e1, g1, l1, hb, rp, _⟩ := fld_lst (y := x) (H1 := H) S R h1
            refine ⟨_, e1, a, C, dx, gs, _, rfl, g1, S.c, hno, l1, x, r, m, R, ?_⟩
            rw [h2]
            intro v y H1 R1 p1 st1
            cases p1
            obtain ⟨v, e2, rv⟩ := atI_reps (rp.mono st1.st.F st1.st.io) h3
            exact ⟨b, vs, k, v, rfl, rfl, SqL.of (st1.st.keep b _ hb (by simp)), e2, q v y H1 R1 rv st1.toE⟩
        | _ => exact q.elim
    | _ => exact q.elim
theorem de_slF {lo hi : Option Expr} {tl th : QO} (S : ClsS X.K X.mg nm C) (hno : NoAttr X.K C f) (ho : PE X o (tVar i)) (hl : DQO X lo tl) (hh : DQO X hi th) (hb : attributeBase o f X.env (eval o X.env) = eval o X.env := by rfl) :
    DE X w (.Subscript (.Attribute o f apos) (.Slice lo hi none p2) pos) (sSlF nm i f tl th) := PE.imp (pe_slice sl_any (pe_fld ho hb) hl hh) fun s H Q ⟨x, r, m, R, q⟩ => by
  unfold sSlF at q
  cases h1 : fldAt nm i f r m with
  | none => rw [h1] at q; exact q.elim
  | some nc =>
    obtain ⟨n, c⟩ := nc
    rw [h1] at q
    cases c with
    | lst l =>
      cases h2 : tl r m with
      | none => rw [h2] at q; exact q.elim
      | some a1 =>
        cases h3 : th r m with
        | none => rw [h2, h3] at q; exact q.elim
        | some a2 =>
          rw [h2, h3] at q
          obtain ⟨a, dx, b, gs, vs, e1, g1, l1, hb, rp, _⟩ := fld_lst (y := x) (H1 := H) S R h1
          refine ⟨_, e1, a, C, dx, gs, _, rfl, g1, S.c, hno, l1, x, r, m, R, ?_⟩
          rw [h2]
          intro v y H1 R1 p1 st1
          cases p1
          refine ⟨y, r, m, R1, ?_⟩
          rw [h3]
          intro v z H2 R2 p2 st2
          cases p2
          have st := st1.trans st2
          have q : Fin PV w x r s H Q (.ok (.lst (cutL l a1 a2)) m) := q
          exact .inl ⟨b, vs, rfl, SqL.of (st.st.keep b _ hb (by simp)), Fin.list R2 (Fin.shift st.toE q) (cut_reps (rp.mono st.st.F st.st.io) _ _)⟩
    | _ => exact q.elim
end
end Dl
set_option autoImplicit true
/-! The data layer: a list field written; an own list by +; fields as targets. -/
namespace Dl
open PySem PySem.Spec PyProof.Rows L2 TL
theorem putF_same {f : Str} {v : V} : ∀ {gs : List (Str × V)}, gs.lookup f = some v → putF f v gs = gs
  | [], h => by cases h
  | (k, z) :: gs, h => by
    by_cases e : k = f
    · rw [lookup_cons_eq e] at h
      cases h
      unfold putF
      rw [if_pos e]
    · rw [lookup_cons_ne e] at h
      unfold putF
      rw [if_neg e, putF_same h]
section
variable {pw : PWd} {x : Sx pw} {r : Env} {m : Sto} {s : L2.St} {H : Hp}
/-- the list of a field is written where it stands -/
theorem Rel.ownF {n : Nat} {nm f : Str} {fs : List (Str × Cell)} {l l' : List D} {x0 : Sx pw} {H0 : Hp} (R : Rel x r m s H) (st0 : StE x0 H0 x H) (h : m[n]? = some (.ins nm fs)) (hf : fs.lookup f = some (.lst l)) :
    ∃ (a dx C b : Addr) (gs : List (Str × V)) (vs : List V), x.io[n]? = some a ∧ pw.2.2 nm = some (.ref C) ∧ H a = some (.ins C dx gs) ∧ gs.lookup f = some (.ref b) ∧ H b = some (.lst vs) ∧ Reps x.F x.io l vs ∧
      ∀ vs', Reps x.F x.io l' vs' → ∃ y : Sx pw, Rel y r (m.set n (.ins nm (putC f (.lst l') fs))) s (upd H b (.lst vs')) ∧ StS x0 H0 y (upd H b (.lst vs')) := by
  obtain ⟨a, dx, C, gs, A, A', e1, pm, e0, h1, h2, t, wr⟩ := R.insAt h
  obtain ⟨A0, B', pA, g, wF⟩ := t.at f
  obtain ⟨v, lv, hc⟩ := g _ hf
  cases hc with
  | @lst b ds vs hb rp =>
  refine ⟨a, dx, C, b, gs, vs, e1, e0, h1, lv, hb, rp, fun vs' rp' => ?_⟩
  have nd2 : (a :: dx :: A ++ A').Nodup := (pm.nodup_iff).mp (List.nodup_append.mp R.nd).2.1
  have hbA : b ∈ A := pA.mem_iff.mpr (by simp)
  have hbA2 : b ∈ x.A2 := pm.mem_iff.mpr (by simp [hbA])
  have hbF : x.F b = none := R.nF b (List.mem_append_right _ hbA2)
  have q1 : (dx :: A ++ A').Nodup := (List.nodup_cons.mp nd2).2
  have q2 : (A ++ A').Nodup := (List.nodup_cons.mp q1).2
  have hba : b ≠ a := fun e => (List.nodup_cons.mp nd2).1 (by rw [← e]; simp [hbA])
  have hbd : b ≠ dx := fun e => (List.nodup_cons.mp q1).1 (by rw [← e]; simp [hbA])
  have nA : ([b] ++ B').Nodup := (pA.nodup_iff).mp (List.nodup_append.mp q2).1
  have neB : ∀ c ∈ B', c ≠ b := fun c hc e => (List.nodup_append.mp nA).2.2 b (by simp) c hc e.symm
  have neA' : ∀ c ∈ A', c ≠ b := fun c hc e => (List.nodup_append.mp q2).2.2 b hbA c hc e.symm
  obtain ⟨H', hH⟩ : ∃ H', H' = upd H b (.lst vs') := ⟨_, rfl⟩
  rw [← hH]
  have up : ∀ c, c ≠ b → H' c = H c := fun c hc => by rw [hH, upd_ne hc]
  obtain ⟨A3, p3, t3⟩ := wF (F' := x.F) (io' := x.io) (H' := H') (.refl _) (.refl _) (fun c hc o e => by rw [up c (neB c hc)]; exact e) (CellR.lst (by rw [hH, upd_same]) rp')
  have eg : putF f (V.ref b) gs = gs := putF_same lv
  rw [eg] at t3
  obtain ⟨A4, p4, st4⟩ := wr (F' := x.F) (io' := x.io) (H' := H') (.refl _) (.refl _) (fun c hc o e => by rw [up c (neA' c hc)]; exact e) (ObjR.ins (a := a) (dx := dx) (C := C) (x := nm) e0 (by rw [up a hba.symm]; exact h1) (by rw [up dx hbd.symm]; exact h2) t3)
  have in3 : ∀ c, c ∈ A3 ↔ c ∈ A := fun c => by rw [p3.mem_iff, pA.mem_iff]
  have in4 : ∀ c, c ∈ A4 ↔ c ∈ x.A2 := fun c => by rw [p4.mem_iff, pm.mem_iff]; simp [in3 c]
  have nd3 : A3.Nodup := (p3.nodup_iff).mpr nA
  have nd4 : A4.Nodup := by
    refine (p4.nodup_iff).mpr (List.nodup_cons.mpr ⟨fun hm => (List.nodup_cons.mp nd2).1 ?_, List.nodup_cons.mpr ⟨fun hm => (List.nodup_cons.mp q1).1 ?_, List.nodup_append.mpr ⟨nd3, (List.nodup_append.mp q2).2.1, fun c hc d hd e => (List.nodup_append.mp q2).2.2 c ((in3 c).mp hc) d hd e⟩⟩⟩)
    · rcases List.mem_cons.mp hm with e | hm
      · simp [e]
      · rcases List.mem_append.mp hm with hm | hm
        · simp [(in3 a).mp hm]
        · simp [hm]
    · rcases List.mem_append.mp hm with hm | hm
      · simp [(in3 dx).mp hm]
      · simp [hm]
  have na1 : ∀ c ∈ x.A1, c ≠ b := fun c hc e => (List.nodup_append.mp R.nd).2.2 c hc b hbA2 e
  refine ⟨x.w2 A4, ⟨fun c o e => ?_, R.vars.mono (.refl _) (.refl _) fun c hc o e => by rw [up c (na1 c hc)]; exact e, st4, ?_, fun c hc => ?_⟩, ⟨⟨st0.st.F, st0.st.io, fun c o e n => ?_, fun c e => st0.st.there c ?_, fun c e1 e2 => (st0.st.newF c e1 e2).imp id fun z => List.mem_append_right _ z, fun c hc => st0.st.newA c ((in4 c).mp hc)⟩, fun c hc => .inl (by rw [← st0.a1]; exact hc)⟩⟩
  · rw [up c (ne_of_none (H := x.F) e hbF)]
    exact R.sub _ _ e
  · exact List.nodup_append.mpr ⟨(List.nodup_append.mp R.nd).1, nd4, fun c hc d hd e => (List.nodup_append.mp R.nd).2.2 c hc d ((in4 d).mp hd) e⟩
  · refine R.nF c ?_
    rcases List.mem_append.mp hc with q | q
    · exact List.mem_append_left _ q
    · exact List.mem_append_right _ ((in4 c).mp q)
  · have hc : c ≠ b := fun e' => by
      rcases st0.st.newA b hbA2 with z | z
      · exact n (by rw [e']; exact List.mem_append_right _ z)
      · rw [e', z] at e
        cases e
    rw [up c hc]
    exact st0.st.keep c o e fun z => n (List.mem_append_right _ z)
  · by_cases hc : c = b
    · rw [hc, hH, upd_same] at e
      cases e
    · rw [up c hc] at e
      exact e
end
/-- self.f.append(e) -/
def sAppF (nm : Str) (i : Nat) (f : Str) (g : Q1 D) : SS := fun r m => match fldAt nm i f r m, g r m with
  | some (n, .lst l), some d => (match m[n]? with
    | some (.ins nm' fs) => if l.length < LIM then .nx r (m.set n (.ins nm' (putC f (.lst (l ++ [d])) fs))) else .bad
    | _ => .bad)
  | _, _ => .bad
/-- self.f[e] = v -/
def sPutF (nm : Str) (i : Nat) (f : Str) (g v : Q1 D) : SS := fun r m => match fldAt nm i f r m, g r m, v r m with
  | some (n, .lst l), some (.int k), some d => (match m[n]?, ixN l.length k with
    | some (.ins nm' fs), some j => .nx r (m.set n (.ins nm' (putC f (.lst (l.set j d)) fs)))
    | _, _ => .bad)
  | _, _, _ => .bad
section
variable {X : Cx} {w : Wi} {nm f : Str} {i : Nat} {C : Addr} {o e : Expr} {g gv : Q1 D} {pos apos p1 p2 : Pos}
theorem ds_appF (S : ClsS X.K X.mg nm C) (hno : NoAttr X.K C f) (ho : PE X o (tVar i)) (he : DQ X e g) (hb : attributeBase o f X.env (eval o X.env) = eval o X.env := by rfl)
    (hs : swapsWith (.Call (.Attribute (.Attribute o f apos) "append" p1) [e] [] p2) none pos.line X.env = pure false := by rfl) (hst : starEach [e] X.env = [(false, eval e X.env)] := by rfl)
    (hbase : attributeBase (.Attribute o f apos) "append" X.env (eval (.Attribute o f apos) X.env) = eval (.Attribute o f apos) X.env := by rfl)
    (hfew : ((backTo p2 (starEach [e] X.env)).all (fun x => !x.1) && (backToKw p2 (keywordEach [] X.env)).all (fun x => x.1.isSome)
      && decide ([e].length + ([] : List Keyword).length + (if ([] : List Keyword).isEmpty then 0 else 1) < 30)) = true := by rfl)
    (hline : (p1.endLine == p2.line) = true := by rfl) (hpl : (backTo p2 (starEach [] X.env)).any (·.1) = false := by rfl) :
    DS X w (.Expr (.Call (.Attribute (.Attribute o f apos) "append" p1) [e] [] p2) pos) (sAppF nm i f g) :=
  PS.imp (ps_expr (pe_bm PySem.F.plainAttrs_list PySem.F.slot_list_append PySem.F.type_list_append mt_append (pe_fld ho hb) (pa_cons he pa_nil hst) hbase hfew hline hst hpl) hs) fun E s H ⟨x, r, m, R, q⟩ => by
  unfold sAppF at q
  cases h1 : fldAt nm i f r m with
  | none => rw [h1] at q; exact q.elim
  | some nc =>
    obtain ⟨n, c⟩ := nc
    rw [h1] at q
    cases c with
    | lst l =>
      cases h2 : g r m with
      | none => rw [h2] at q; exact q.elim
      | some d =>
        rw [h2] at q
        obtain ⟨hr, fs, hm, hf⟩ := fld_inv h1
        dsimp only at q
        rw [hm] at q
        dsimp only at q
        obtain ⟨hz, q⟩ := FinS.ite q
        obtain ⟨a, dx, b, gs, vs, e1, g1, l1, hb', rp, hbA⟩ := fld_lst (y := x) (H1 := H) S R h1
        refine ⟨.ref a, e1, a, C, dx, gs, .ref b, rfl, g1, S.c, hno, l1, .inl ⟨rfl, vs, SqL.of hb'⟩, x, r, m, R, ?_⟩
        rw [h2]
        intro v y H1 R1 p1 st1
        obtain ⟨a2, dx2, C2, b2, gs2, vs2, k1, k2, k3, k4, k5, k6, up⟩ := R1.ownF (l' := l ++ [d]) st1.toE hm hf
        have ea : a2 = a := by
          obtain ⟨v3, A3, z1, z2, _⟩ := slot_at R1 hr
          cases z2 with
          | val z2 =>
            cases z2 with
            | obj z2 =>
              rw [k1] at z2
              cases z2
              rw [e1] at z1
              cases z1
              rfl
        subst ea
        have ei : some (HO.ins C2 dx2 gs2) = some (HO.ins C dx gs) := by rw [← k3]; exact st1.st.keep _ _ g1 (by simp)
        cases ei
        rw [l1] at k4
        cases k4
        obtain ⟨z, R2, st2⟩ := up (vs2 ++ [v]) (k6.append (.cons p1 .nil))
        exact ⟨b, vs2, v, rfl, rfl, k5, by rw [← k6.length, ← lim_eq]; exact hz, q s z _ R2 st2⟩
    | _ => exact q.elim
theorem ds_putF (S : ClsS X.K X.mg nm C) (hno : NoAttr X.K C f) (ho : PE X o (tVar i)) (he : DQ X e g) {ev : Expr} (hv : DQ X ev gv) (hb : attributeBase o f X.env (eval o X.env) = eval o X.env := by rfl) {p3 : Pos}
    (hs : swapsWithSole [.Subscript (.Attribute o f apos) e p3] ev pos.line X.env = pure false := by rfl) (hw : swappedStores [.Subscript (.Attribute o f apos) e p3] ev X.env = pure none := by rfl)
    (h1 : (assignEach [.Subscript (.Attribute o f apos) e p3] X.env).map (·.2) = [assign (.Subscript (.Attribute o f apos) e p3) X.env] := by rfl)
    (ha : ∀ v, assign (.Subscript (.Attribute o f apos) e p3) X.env v = (do
      let o1 ← holding [v] (eval (.Attribute o f apos) X.env)
      let i1 ← holding [v, o1] (eval e X.env)
      standAt p3
      holding [v, o1, i1] (setItem o1 i1 v)
      release [v, o1, i1] []) := by intro _; rfl) :
    DS X w (.Assign [.Subscript (.Attribute o f apos) e p3] ev pos) (sPutF nm i f g gv) :=
  PS.imp (ps_asg hv (pg_sub (pe_fld ho hb) he set_list ha) hs hw h1) fun E s H ⟨x, r, m, R, q⟩ => by
  unfold sPutF at q
  cases h1 : fldAt nm i f r m with
  | none => rw [h1] at q; exact q.elim
  | some nc =>
    obtain ⟨n, c⟩ := nc
    rw [h1] at q
    cases c with
    | lst l =>
      cases h2 : g r m with
      | none => rw [h2] at q; exact q.elim
      | some dk =>
        rw [h2] at q
        cases dk with
        | int k =>
          cases h3 : gv r m with
          | none => rw [h3] at q; exact q.elim
          | some d =>
            rw [h3] at q
            obtain ⟨hr, fs, hm, hf⟩ := fld_inv h1
            dsimp only at q
            rw [hm] at q
            cases h4 : ixN l.length k with
            | none => rw [h4] at q; exact q.elim
            | some j =>
              rw [h4] at q
              refine ⟨x, r, m, R, ?_⟩
              rw [h3]
              intro v y H1 R1 p1 st1
              obtain ⟨a, dx, b, gs, vs, e1, g1, l1, hb', rp, hbA⟩ := fld_lst (y := y) (H1 := H1) S R1 h1
              refine ⟨.ref a, e1, a, C, dx, gs, .ref b, rfl, g1, S.c, hno, l1, y, r, m, R1, ?_⟩
              rw [h2]
              intro v2 z H2 R2 p2 st2
              cases p2
              obtain ⟨a2, dx2, C2, b2, gs2, vs2, k1, k2, k3, k4, k5, k6, up⟩ := R2.ownF (l' := l.set j d) (st1.trans st2).toE hm hf
              have ea : a2 = a := by
                obtain ⟨v3, A3, z1, z2, _⟩ := slot_at R2 hr
                cases z2 with
                | val z2 =>
                  cases z2 with
                  | obj z2 =>
                    rw [k1] at z2
                    cases z2
                    rw [e1] at z1
                    cases z1
                    rfl
              subst ea
              have ei : some (HO.ins C2 dx2 gs2) = some (HO.ins C dx gs) := by rw [← k3]; exact st2.st.keep _ _ g1 (by simp)
              cases ei
              rw [l1] at k4
              cases k4
              obtain ⟨u, R3, st3⟩ := up (vs2.set j v) (Reps.set (p1.mono st2.st.F st2.st.io) j k6)
              exact ⟨b, vs2, k, j, rfl, rfl, k5, by rw [← k6.length]; exact h4, q s u _ R3 st3⟩
        | _ => exact q.elim
    | _ => exact q.elim
end
end Dl
set_option autoImplicit true
/-! The data layer: two fields by one assignment, own lists by +, methods called, instances made. -/
namespace Dl
open PySem PySem.Spec PyProof.Rows L2 TL
/-! ### a, b = e where a, b are fields -/
def gFld (K : PySem.W.Frag) (ta : TE) (f : Str) : TG := fun v σ H Q => ta σ H fun x H1 => ∃ a C dx fs, x = .ref a ∧ H1 a = some (.ins C dx fs) ∧ L2.Cls K C ∧ NoAttr K C f ∧ fs.length < 1000 ∧ Q σ (upd H1 a (.ins C dx (putF f v fs)))
theorem pg_fld {X : Cx} {o : Expr} {f : Str} {pos : Pos} {ta : TE} (ho : PE X o ta) : PG X (.Attribute o f pos) (gFld X.K ta f) := by
  refine ⟨fun pins s σ H v u Q I r h => ?_⟩
  rw [PySem.assign_Attribute]
  refine wpAny_bind (wpAny_holding (thn (ho.run pins s σ H _ I h) fun ov s1 ⟨x, H1, I1, r1, a, C, dx, fs, ex, ea, c, n, l, q⟩ => ?_))
  subst ex
  obtain rfl : ov = Value.ref a := r1
  refine wpAny_bind (wpAny_standAt (wpAny_bind (wpAny_holding (setattr_ok I1 ea c n l r fun s2 I2 => ?_))))
  exact wpAny_release ⟨σ, _, I2, q⟩
def sSetF2 (nm : Str) (i : Nat) (f g : Str) (fe : SE) : SS := fun r m => bindS r (fe r m) fun d m => match d, r[i]? with
  | .tup [a, b], some (some (.val (.obj n))) => (match m[n]? with
    | some (.ins nm' fs) => if nm' = nm ∧ fs.length < 800 then .nx r (m.set n (.ins nm' (putC g (.val b) (putC f (.val a) fs)))) else .bad
    | _ => .bad)
  | _, _ => .bad
theorem putC_len (f : Str) (c : Cell) : ∀ fs : List (Str × Cell), (putC f c fs).length ≤ fs.length + 1
  | [] => Nat.le_refl _
  | (g, x) :: r => by
    unfold putC
    by_cases e : g = f
    · rw [if_pos e]
      exact Nat.le_succ _
    · rw [if_neg e]
      exact Nat.succ_le_succ (putC_len f c r)
section
variable {X : Cx} {w : Wi} {nm f g : Str} {i : Nat} {C : Addr}
theorem ds_setF2 {o e : Expr} {fe : SE} {pos p1 p2 p3 : Pos} {kt : Nat} (S : ClsS X.K X.mg nm C) (hc : X.calm = true) (h1 : NoAttr X.K C f) (h2 : NoAttr X.K C g) (ho : PE X o (tVar i)) (he : DE X w e fe)
    (hs : swapsWithSole [.Tuple [.Attribute o f p1, .Attribute o g p2] kt p3] e pos.line X.env = pure false := by rfl) (hw : swappedStores [.Tuple [.Attribute o f p1, .Attribute o g p2] kt p3] e X.env = pure none := by rfl)
    (hk : (assignEach [.Tuple [.Attribute o f p1, .Attribute o g p2] kt p3] X.env).map (·.2) = [assign (.Tuple [.Attribute o f p1, .Attribute o g p2] kt p3) X.env] := by rfl)
    (ha : (assignEach [.Attribute o f p1, .Attribute o g p2] X.env).map (·.2) = assign (.Attribute o f p1) X.env :: (assignEach [.Attribute o g p2] X.env).map (·.2) := by rfl)
    (hb : (assignEach [.Attribute o g p2] X.env).map (·.2) = assign (.Attribute o g p2) X.env :: (assignEach [] X.env).map (·.2) := by rfl)
    (hn : (assignEach [.Attribute o f p1, .Attribute o g p2] X.env).length = 2 := by rfl) (hst : (assignEach [.Attribute o f p1, .Attribute o g p2] X.env).findIdx? (·.1) = none := by rfl) :
    DS X w (.Assign [.Tuple [.Attribute o f p1, .Attribute o g p2] kt p3] e pos) (sSetF2 nm i f g fe) :=
  PS.imp (ps_asg he (pg_tup hc (pgs_cons (pg_fld ho) (pgs_cons (pg_fld ho) pgs_nil hb) ha) hn hst) hs hw hk) fun E s H ⟨x, r, m, R, q⟩ => by
  refine rd_bindS R q fun d m1 v y H1 R1 p1 st1 q1 => ?_
  split at q1
  · rename_i a b n hr
    split at q1
    · rename_i nm' fs hm
      by_cases e1 : nm' = nm ∧ fs.length < 800
      · rw [if_pos e1] at q1
        obtain ⟨rfl, hl⟩ := e1
        cases p1 with
        | tup hF rp =>
          cases rp with
          | cons ra rp =>
            cases rp with
            | cons rb rp =>
              cases rp
              obtain ⟨v', A0, k1, k2, _⟩ := slot_at R1 hr
              cases k2 with
              | val k2 =>
                cases k2 with
                | @obj _ ad hio =>
                  obtain ⟨a', dx, C', gs, e2, e0, g1, hgl, z, R2, st2⟩ := R1.setFld (f := f) (A1 := []) (x0 := y) (H0 := H1) .refl (fun b hb => by cases hb) hm (.val ra) fun b hb => by cases hb
                  rw [hio] at e2
                  cases e2
                  have eC : C' = C := by
                    have e0 : X.mg nm' = some (.ref C') := e0
                    rw [S.g] at e0
                    cases e0
                    rfl
                  subst eC
                  have hm2 : (m1.set n (.ins nm' (putC f (.val a) fs)))[n]? = some (.ins nm' (putC f (.val a) fs)) := by
                    have hlt := (List.getElem?_eq_some_iff.mp hm).1
                    rw [List.getElem?_set_self hlt]
                  have rb2 : Rep z.F z.io b _ := rb.mono st2.st.F st2.st.io
                  obtain ⟨a3, dx3, C3, gs3, e3, e03, g3, hgl3, z3, R3, st3⟩ := R2.setFld (f := g) (A1 := []) (x0 := z) (H0 := _) .refl (fun b hb => by cases hb) hm2 (.val rb2) fun b hb => by cases hb
                  have hio2 := st2.st.io.get hio
                  rw [hio2] at e3
                  cases e3
                  rw [upd_same] at g3
                  cases g3
                  have l2 := putC_len f (.val a) fs
                  refine ⟨_, _, rfl, SqT.of (R1.sub _ _ hF), rfl, _, _, rfl, ⟨.ref ad, k1, ad, C', dx, gs, rfl, g1, S.c, h1, by omega, _, _, rfl, ⟨.ref ad, k1, ad, C', dx, _, rfl, upd_same, S.c, h2, by omega, rfl, ?_⟩⟩⟩
                  have q1 : FinS w y H1 E (.nx r (m1.set n (.ins nm' (putC g (.val b) (putC f (.val a) fs))))) := q1
                  have es : (m1.set n (.ins nm' (putC f (.val a) fs))).set n (.ins nm' (putC g (.val b) (putC f (.val a) fs))) = m1.set n (.ins nm' (putC g (.val b) (putC f (.val a) fs))) := List.set_set ..
                  rw [es] at R3
                  exact q1 s z3 _ R3 (st2.trans st3)
      · rw [if_neg e1] at q1
        exact q1.elim
    · exact q1.elim
  · exact q1.elim
end
/-! ### a + b, an own list -/
def catC : D → D → Sto → R Cell
  | .lst a, .lst b, m => if a.length + b.length ≤ LIM then .ok (.lst (a ++ b)) m else .bad
  | _, _, _ => .bad
def cCat (f g : SE) : SCe := fun r m => bindR (f r m) fun d m => bindR (g r m) fun k m => catC d k m
theorem dc_cat {X : Cx} {w : Wi} {a b : Expr} {fa fb : SE} {pos : Pos} (ha : DK X w a fa) (hb : DK X w b fb) : DC X w (.BinOp a .Add b pos) (cCat fa fb) := PE.imp (pe_op op_cat ha hb) fun s H Q ⟨x, r, m, R, q⟩ => by
  unfold cCat at q
  show rd Pk w fa s H _
  refine ⟨x, r, m, R, ?_⟩
  cases ea : fa r m with
  | bad => rw [ea] at q; exact q
  | exc c v m1 => rw [ea] at q; exact q
  | ok d m1 =>
    rw [ea] at q
    intro v y H1 R1 p1 st1
    refine ⟨y, r, m1, R1, ?_⟩
    have q : FinC w x r s H Q (bindR (fb r m1) fun k m => catC d k m) := q
    cases eb : fb r m1 with
    | bad => rw [eb] at q; exact q
    | exc c v m2 =>
      rw [eb] at q
      exact fun cls dd z H2 R2 ex st2 => q cls dd z H2 R2 ex (st1.trans st2)
    | ok k m2 =>
      rw [eb] at q
      intro u z H2 R2 p2 st2
      have p1' := p1.stay R1 st2
      have q : FinC w x r s H Q (catC d k m2) := q
      cases d with
      | lst l1 =>
        cases k with
        | lst l2 =>
          have q : FinC w x r s H Q (if l1.length + l2.length ≤ LIM then .ok (.lst (l1 ++ l2)) m2 else .bad) := q
          by_cases hz : l1.length + l2.length ≤ LIM
          · rw [if_pos hz] at q
            obtain ⟨p, xs, rfl, hp, rx⟩ := p1'.lst R2
            obtain ⟨p', ys, rfl, hp', ry⟩ := p2.lst R2
            refine ⟨p, p', xs, ys, rfl, rfl, hp, hp', by rw [← rx.length, ← ry.length, ← lim_eq]; exact hz, fun t ht => ?_⟩
            have htF : z.F t = none := by
              cases e : z.F t with
              | none => rfl
              | some o => rw [R2.sub _ _ e] at ht; cases ht
            have R3 : Rel z r _ s (upd H2 t (.lst (xs ++ ys))) := ⟨fun b o e => by rw [upd_ne (ne_of_none (R2.sub _ _ e) ht)]; exact R2.sub _ _ e, R2.vars.mono (.refl _) (.refl _) fun b _ o e => by rw [upd_ne (ne_of_none e ht)]; exact e,
              R2.sto.mono (.refl _) (.refl _) fun b _ o e => by rw [upd_ne (ne_of_none e ht)]; exact e, R2.nd, R2.nF⟩
            refine q (.ref t) z (upd H2 t (.lst (xs ++ ys))) [t] R3 (.lst upd_same (rx.append ry)) (fun b hb => ?_) ((st1.trans st2).trans ⟨⟨.refl _, .refl _, fun b o e _ => by rw [upd_ne (ne_of_none e ht)]; exact e, fun b e => ?_, fun b h1 h2 => absurd h1 h2, fun b h => .inl h⟩, rfl⟩)
            · have e := List.mem_singleton.mp hb
              subst e
              exact ⟨htF, fun hm => R2.there b hm ht, (st1.trans st2).st.there b ht⟩
            · by_cases hb : b = t
              · subst hb; exact ht
              · rw [upd_ne hb] at e
                exact e
          · rw [if_neg hz] at q
            exact q.elim
        | _ => exact q.elim
      | _ => cases k <;> exact q.elim
/-! ### methods -/
def tMethE (C : Addr) (mm : Str) (sp : Sp) (E : L2.St → XK) (ta : TE) (t : TA) : TE := fun σ H Q => ta σ H fun x H1 => ∃ a dx fs, x = .ref a ∧ H1 a = some (.ins C dx fs) ∧ fs.lookup mm = none ∧ t σ H1 fun vs H2 => sp (x :: vs) H2 Q (E σ)
section
variable {X : Cx} {CX : CXT} {k : Nat} {f C : Addr} {fd : FuncData} {ps : List Str} {sp : Sp} {E : L2.St → XK} {mm : Str} {apos pos : Pos} {o e : Expr} {es : List Expr} {ta : TE} {t : TA}
theorem pe_methE {pl : Sem Bool} (he : PE X o ta) (c : L2.Cls X.K C) (hm : Meth X.K C mm f) (F : FnOk X.prog X.w X.K X.mg X.base CX k f fd ps sp) (hr : Room k X.A) (hb : Binds X.K fd ps []) (hx : ∀ σ, PassesAt CX X σ (E σ)) (ha : PA X (e :: es) t)
    (hst : starEach (e :: es) X.env = (false, eval e X.env) :: starEach es X.env := by rfl) (hpl : (backTo pos (starEach es X.env)).any (·.1) = false := by rfl)
    (ht : eval (.Call (.Attribute o mm apos) (e :: es) [] pos) X.env = (do
      let v0 ← eval o X.env
      standAt apos.atName
      let (f, first) ← holding [v0] (getMethod v0 mm pl)
      callWith pos f first (backTo pos (starEach (e :: es) X.env)) (backToKw pos (keywordEach [] X.env))) := by rfl) :
    PE X (.Call (.Attribute o mm apos) (e :: es) [] pos) (tMethE C mm sp E ta t) := by
  refine ⟨fun pins s σ H Q I h => ?_⟩
  refine PySem.W.methodCall_KW (pl := pl) (thn (he.run pins s σ H _ I h) fun u s1 ⟨x, H1, I1, rx, a, dx, fs, ex, ea, l, q⟩ => ?_) ht
  subst ex
  obtain rfl : u = Value.ref a := rx
  refine getmeth_ok I1 ea c hm l ?_
  refine PySem.W.callWith_K (first := [.ref a]) (h₀ := X.base) I.ok.mod.kin hm.kp (thn (ha.run pos pins s1 σ H1 _ I1 q) fun us s2 ⟨vs, H2, I2, r, q2⟩ => ⟨I2.kIn, ?_⟩) hst hpl
  exact run_fnS (us := .ref a :: us) (vs := .ref a :: vs) F hr hb (hx σ) I2 (.cons rfl r) q2
theorem pe_methE0 {pl : Sem Bool} (he : PE X o ta) (c : L2.Cls X.K C) (hm : Meth X.K C mm f) (F : FnOk X.prog X.w X.K X.mg X.base CX k f fd ps sp) (hr : Room k X.A) (hb : Binds X.K fd ps []) (hx : ∀ σ, PassesAt CX X σ (E σ))
    (ht : eval (.Call (.Attribute o mm apos) [] [] pos) X.env = (do
      let v0 ← eval o X.env
      standAt apos.atName
      let (f, first) ← holding [v0] (getMethod v0 mm pl)
      callWith pos f first (backTo pos (starEach [] X.env)) (backToKw pos (keywordEach [] X.env))) := by rfl) :
    PE X (.Call (.Attribute o mm apos) [] [] pos) (tMethE C mm sp E ta tNil) := by
  refine ⟨fun pins s σ H Q I h => ?_⟩
  refine PySem.W.methodCall_KW (pl := pl) (thn (he.run pins s σ H _ I h) fun u s1 ⟨x, H1, I1, rx, a, dx, fs, ex, ea, l, q⟩ => ?_) ht
  subst ex
  obtain rfl : u = Value.ref a := rx
  refine getmeth_ok I1 ea c hm l ?_
  exact PySem.W.callWith_K0 (first := [.ref a]) I1.kIn hm.kp (run_fnS (us := [.ref a]) (vs := [.ref a]) F hr hb (hx σ) I1 (.cons rfl .nil) q)
end
/-- a method of the class nm, n its parameters with self -/
structure MCal (P : Program) (w : World) (K : PySem.W.Frag) (mg : Str → Option Value) (base : Heap) (k : Nat) (nm mm : Str) (n : Nat) (t : Tf) (φ : Fd) : Prop where
  ex : ∃ f fd ps C, FnOk P w K mg base (L2.CX P w) k f fd ps (spF (P, w, mg) t n φ) ∧ ClsS K mg nm C ∧ Meth K C mm f ∧ Binds K fd ps []
def insAt (nm mm : Str) (i : Nat) (r : Env) (m : Sto) : Option Nat := match r[i]? with
  | some (some (.val (.obj n))) => match m[n]? with
    | some (.ins nm' fs) => if nm' = nm ∧ fs.lookup mm = none then some n else none
    | _ => none
  | _ => none
/-- o.m(e, ..) -/
def sMethC (nm mm : Str) (i n : Nat) (φ : Fd) (g : SL) : SE := fun r m => match insAt nm mm i r m with
  | some k => bindR (g r m) fun ds m1 => callF n φ (.obj k :: ds) m1
  | none => .bad
theorem MCal.mono {P : Program} {w : World} {K : PySem.W.Frag} {mg : Str → Option Value} {base : Heap} {j k : Nat} {nm mm : Str} {n : Nat} {t : Tf} {φ : Fd} (C : MCal P w K mg base j nm mm n t φ) (h : j ≤ k) : MCal P w K mg base k nm mm n t φ := by
  obtain ⟨f, fd, ps, c, F, r⟩ := C.ex
  exact ⟨f, fd, ps, c, F.mono h, r⟩
section
variable {X : Cx} {w : Wi} {k n i : Nat} {nm mm : Str} {φ : Fd} {o e : Expr} {es : List Expr} {g : SL} {apos pos : Pos}
theorem ins_inv {r : Env} {m : Sto} {j : Nat} (h : insAt nm mm i r m = some j) : r[i]? = some (some (.val (.obj j))) ∧ ∃ fs, m[j]? = some (.ins nm fs) ∧ fs.lookup mm = none := by
  unfold insAt at h
  split at h
  · rename_i n' hr
    split at h
    · rename_i nm' fs hm
      by_cases e : nm' = nm ∧ fs.lookup mm = none
      · rw [if_pos e] at h
        cases h
        obtain ⟨rfl, e⟩ := e
        exact ⟨hr, fs, hm, e⟩
      · rw [if_neg e] at h
        cases h
    · cases h
  · cases h
/-- the receiver, then the arguments, then the promise -/
theorem rd_methC {C f : Addr} {t : Tf} {s : L2.St} {H : Hp} {Q : VK} (ht : t = w.tf) (S : ClsS X.K X.mg nm C) (q : rd (PV (pw := pwOf X)) w (sMethC nm mm i n φ g) s H Q) :
    tMethE C mm (spF (pwOf X) t n φ) (WE w.W) (tVar i) (rd (pw := pwOf X) (fun x H ds vs => Reps x.F x.io ds vs) w g) s H Q := by
  obtain ⟨x, r, m, R, q⟩ := q
  subst ht
  unfold sMethC at q
  cases h : insAt nm mm i r m with
  | none => rw [h] at q; exact q.elim
  | some j =>
    rw [h] at q
    obtain ⟨hr, fs, hm, hf⟩ := ins_inv h
    obtain ⟨v, A0, h1, h2, _⟩ := slot_at R hr
    cases h2 with
    | val h2 =>
      cases h2 with
      | @obj _ a hio =>
        obtain ⟨a', dx, C', gs, A, A', e1, pm, e0, g1, g2, tf, _⟩ := R.insAt hm
        rw [hio] at e1
        cases e1
        have eC : C' = C := by
          have e0 : X.mg nm = some (.ref C') := e0
          rw [S.g] at e0
          cases e0
          rfl
        subst eC
        refine ⟨.ref a, h1, a, dx, gs, rfl, g1, tf.none hf, ?_⟩
        refine rd_bind R q fun ds m1 vs y H1 R1 p1 st1 q1 => ?_
        obtain ⟨hl, q1⟩ := Fin.ite q1
        refine ⟨by rw [← hl, List.length_cons, List.length_cons, ← p1.length], (y.w1 ([])), m1, .obj j :: ds, R1.leave, .cons (.obj (st1.st.io.get hio)) p1, ?_⟩
        exact Fin.out (w := w) (w' := w.tf.wi (WE w.W s)) rfl rfl R1 (fun _ _ _ h => h) q1
theorem de_meth {pl : Sem Bool} (M : MCal X.prog X.w X.K X.mg X.base k nm mm n w.tf φ) (hr : Room k X.A) (tk : L2.Takes X w.W) (ho : PE X o (tVar i)) (ha : DA X w (e :: es) g)
    (hst : starEach (e :: es) X.env = (false, eval e X.env) :: starEach es X.env := by rfl) (hpl : (backTo pos (starEach es X.env)).any (·.1) = false := by rfl)
    (ht : eval (.Call (.Attribute o mm apos) (e :: es) [] pos) X.env = (do
      let v0 ← eval o X.env
      standAt apos.atName
      let (f, first) ← holding [v0] (getMethod v0 mm pl)
      callWith pos f first (backTo pos (starEach (e :: es) X.env)) (backToKw pos (keywordEach [] X.env))) := by rfl) :
    DE X w (.Call (.Attribute o mm apos) (e :: es) [] pos) (sMethC nm mm i n φ g) := by
  obtain ⟨f, fd, ps, C, F, S, hm, hb⟩ := M.ex
  exact PE.imp (pe_methE (pl := pl) ho S.c hm F hr hb (fun σ => passAt tk σ) ha hst hpl ht) fun s H Q q => rd_methC (f := f) rfl S q
theorem de_meth0 {pl : Sem Bool} (M : MCal X.prog X.w X.K X.mg X.base k nm mm n w.tf φ) (hr : Room k X.A) (tk : L2.Takes X w.W) (ho : PE X o (tVar i))
    (ht : eval (.Call (.Attribute o mm apos) [] [] pos) X.env = (do
      let v0 ← eval o X.env
      standAt apos.atName
      let (f, first) ← holding [v0] (getMethod v0 mm pl)
      callWith pos f first (backTo pos (starEach [] X.env)) (backToKw pos (keywordEach [] X.env))) := by rfl) :
    DE X w (.Call (.Attribute o mm apos) [] [] pos) (sMethC nm mm i n φ aNil) := by
  obtain ⟨f, fd, ps, C, F, S, hm, hb⟩ := M.ex
  refine PE.imp (pe_methE0 (pl := pl) ho S.c hm F hr hb (fun σ => passAt tk σ) ht) fun s H Q q => ?_
  obtain ⟨v, h1, a, dx, gs, e1, g1, l, q2⟩ := rd_methC (f := f) rfl S q
  refine ⟨v, h1, a, dx, gs, e1, g1, l, ?_⟩
  obtain ⟨x, r, m, R, q3⟩ := q2
  exact q3 [] x H R .nil .refl
end
end Dl
set_option autoImplicit true
/-! The data layer: an instance is made. -/
namespace Dl
open PySem PySem.Spec PyProof.Rows L2 TL
theorem Stos.snoc {pw : PWd} {F : Hp} {io : List Addr} {H : Hp} {o : MObj} {a : Addr} {A0 : List Addr} (ho : ObjR pw F io H o a A0) : ∀ {m : Sto} {l A : List Addr}, Stos pw F io H m l A → Stos pw F io H (m ++ [o]) (l ++ [a]) (A ++ A0)
  | _, _, _, .nil => by
    have e : Stos pw F io H (o :: []) (a :: []) (A0 ++ []) := .cons ho .nil
    simpa using e
  | _, _, _, .cons c t => by
    have e := Stos.snoc ho t
    rw [List.append_assoc]
    exact .cons c e
theorem Stos.len {pw : PWd} {F : Hp} {io : List Addr} {H : Hp} : ∀ {m : Sto} {l A : List Addr}, Stos pw F io H m l A → m.length = l.length
  | _, _, _, .nil => rfl
  | _, _, _, .cons _ t => congrArg (· + 1) (Stos.len t)
section
variable {pw : PWd} {x y : Sx pw} {r : Env} {m : Sto} {s : L2.St} {H : Hp}
/-- a new instance without fields -/
theorem Rel.made {nm : Str} {a dx C : Addr} (R : Rel x r m s H) (ha : H a = none) (hd : H dx = none) (hne : dx ≠ a) (hC : pw.2.2 nm = some (.ref C)) :
    Rel (pw := pw) ⟨x.F, x.io ++ [a], x.A1, x.A2 ++ [a, dx]⟩ r (m ++ [.ins nm []]) s (upd (upd H dx (.own a)) a (.ins C dx [])) ∧ StE x H (⟨x.F, x.io ++ [a], x.A1, x.A2 ++ [a, dx]⟩ : Sx pw) (upd (upd H dx (.own a)) a (.ins C dx [])) := by
  obtain ⟨H', hH⟩ : ∃ H', H' = upd (upd H dx (.own a)) a (.ins C dx []) := ⟨_, rfl⟩
  rw [← hH]
  have hn : ∀ b o, H b = some o → H' b = some o := fun b o e => by rw [hH, upd_ne (ne_of_none e ha), upd_ne (ne_of_none e hd)]; exact e
  have kp : ∀ A : List Addr, Keep A H H' := fun A b _ o e => hn b o e
  have hi : Pfx x.io (x.io ++ [a]) := ⟨[a], rfl⟩
  have haF : x.F a = none := by
    cases e : x.F a with
    | none => rfl
    | some o => rw [R.sub _ _ e] at ha; cases ha
  have hdF : x.F dx = none := by
    cases e : x.F dx with
    | none => rfl
    | some o => rw [R.sub _ _ e] at hd; cases hd
  have naA : ∀ b ∈ x.A1 ++ x.A2, b ≠ a ∧ b ≠ dx := fun b hb => ⟨fun e => R.there b hb (by rw [e]; exact ha), fun e => R.there b hb (by rw [e]; exact hd)⟩
  have ob : ObjR pw x.F (x.io ++ [a]) H' (.ins nm []) a [a, dx] := .ins hC (by rw [hH, upd_same]) (by rw [hH, upd_ne hne, upd_same]) .nil
  have e1 : x.A1 ++ (x.A2 ++ [a, dx]) = (x.A1 ++ x.A2) ++ [a, dx] := by rw [List.append_assoc]
  refine ⟨⟨fun b o e => hn b o (R.sub _ _ e), R.vars.mono (.refl _) hi (kp _), Stos.snoc ob (R.sto.mono (.refl _) hi (kp _)), ?_, fun b hb => ?_⟩, ⟨⟨.refl _, hi, fun b o e _ => hn b o e, fun b e => ?_, fun b h1 h2 => absurd h1 h2, fun b hb => ?_⟩, rfl⟩⟩
  · show (x.A1 ++ (x.A2 ++ [a, dx])).Nodup
    rw [e1]
    refine List.nodup_append.mpr ⟨R.nd, by simp [Ne.symm hne], fun b hb c hc e => ?_⟩
    subst e
    simp only [List.mem_cons, List.not_mem_nil, or_false] at hc
    rcases hc with hc | hc
    · exact (naA b hb).1 hc
    · exact (naA b hb).2 hc
  · have hb : b ∈ x.A1 ++ (x.A2 ++ [a, dx]) := hb
    rw [e1] at hb
    rcases List.mem_append.mp hb with hb | hb
    · exact R.nF b hb
    · simp only [List.mem_cons, List.not_mem_nil, or_false] at hb
      rcases hb with rfl | rfl
      · exact haF
      · exact hdF
  · by_cases h1 : b = a
    · rw [h1]; exact ha
    · by_cases h2 : b = dx
      · rw [h2]; exact hd
      · rw [hH, upd_ne h1, upd_ne h2] at e
        exact e
  · have hb : b ∈ x.A2 ++ [a, dx] := hb
    rcases List.mem_append.mp hb with hb | hb
    · exact .inl hb
    · simp only [List.mem_cons, List.not_mem_nil, or_false] at hb
      rcases hb with rfl | rfl
      · exact .inr ha
      · exact .inr hd
end
def tMakeE (C : Addr) (sp : Sp) (E : L2.St → XK) (t : TA) : TE := fun σ H Q => t σ H fun vs H1 => ∀ x dx, H1 x = none → H1 dx = none → dx ≠ x → sp (.ref x :: vs) (upd (upd H1 dx (.own x)) x (.ins C dx [])) (fun v H2 => v = .non ∧ Q (.ref x) H2) (E σ)
section
variable {X : Cx} {CX : CXT} {k : Nat} {f C : Addr} {fd : FuncData} {ps : List Str} {sp : Sp} {E : L2.St → XK} {x : Str} {p pos : Pos} {e : Expr} {es : List Expr} {t : TA}
theorem run_makeE {pins : List (Addr × Obj)} {σ : L2.St} {H : Hp} {s : Shared} {Q : VK} {us : List Value} {vs : List V} (M : L2.Mk X.K C f) (F : FnOk X.prog X.w X.K X.mg X.base CX k f fd ps sp) (hr : Room (k + 1) X.A) (hb : Binds X.K fd ps [])
    (hx : PassesAt CX X σ (E σ)) (I : Inv X pins σ H s) (r : Vals vs us)
    (h : ∀ x dx, H x = none → H dx = none → dx ≠ x → sp (.ref x :: vs) (upd (upd H dx (.own x)) x (.ins C dx [])) (fun v H2 => v = .non ∧ Q (.ref x) H2) (E σ)) :
    wpAny (model X.prog X.w) X.A (call (.ref C) us) (EP X pins σ Q) X.xe s := by
  have hq := h (s.heap.objs.size + 1) s.heap.objs.size (I.hok.fresh (Nat.le_succ _)) (I.hok.fresh (Nat.le_refl _)) (Nat.ne_of_lt (Nat.lt_succ_self _))
  have I2 := Inv.made (C := C) I
  have r2 : Vals (V.ref (s.heap.objs.size + 1) :: vs) (Value.ref (s.heap.objs.size + 1) :: us) := .cons rfl r
  have hl : (Value.ref (s.heap.objs.size + 1) :: us ++ []).length = ps.length := by
    have e := r2.length
    rw [F.len _ _ _ _ hq] at e
    rw [List.append_nil]
    exact e.symm
  have hb2 := hb _ (Value.ref (s.heap.objs.size + 1) :: us) I2.kIn hl
  rw [List.append_nil] at hb2
  refine wpAny_call (make_map (f := f) I.kIn M.makes M.init (beq_iff_eq.mp M.fn) (codeAny_mono (F.run _ X.stack _ _ ⟨Value.ref (s.heap.objs.size + 1) :: us, []⟩ (Value.ref (s.heap.objs.size + 1) :: us) _ _ (E σ) (hr.make C us [])
    (I2.env0.make C us []) hb2 r2 hq) fun r s' hq' => ?_))
  cases r with
  | error e => exact hx pins _ _ e s' I2 hq'
  | ok fl =>
    cases fl with
    | ret u =>
      obtain ⟨v, H', I3, rv, ev, q3⟩ := I2.after hq'
      subst ev
      exact ⟨rv, ⟨V.ref (s.heap.objs.size + 1), H', I3, rfl, q3⟩⟩
    | next => exact False.elim hq'
    | brk => exact False.elim hq'
    | cont => exact False.elim hq'
theorem pe_makeE (M : L2.Mk X.K C f) (F : FnOk X.prog X.w X.K X.mg X.base CX k f fd ps sp) (hr : Room (k + 1) X.A) (hg : Gl X x) (hm : X.mg x = some (.ref C)) (hb : Binds X.K fd ps []) (hx : ∀ σ, PassesAt CX X σ (E σ))
    (ha : PA X (e :: es) t) (hdb : (x == ("__debug__" : Str)) = false := by decide) (he : starEach (e :: es) X.env = (false, eval e X.env) :: starEach es X.env := by rfl) (hpl : (backTo pos (starEach es X.env)).any (·.1) = false := by rfl) :
    PE X (.Call (.Name x p) (e :: es) [] pos) (tMakeE C sp E t) := by
  refine ⟨fun pins s σ H Q I h => ?_⟩
  refine wpAny_Call_Name_kw (ld_glob I hg hm ?_ hdb)
  refine PySem.W.callWith_K (h₀ := X.base) I.ok.mod.kin M.kp (thn (ha.run pos pins s σ H _ I h) fun us s1 ⟨vs, H1, I1, r, q⟩ => ⟨I1.kIn, ?_⟩) he hpl
  exact run_makeE M F hr hb (hx σ) I1 r q
end
/-- the class nm as it is made: its __init__ has n parameters with self -/
structure Maker (P : Program) (w : World) (K : PySem.W.Frag) (mg : Str → Option Value) (base : Heap) (k : Nat) (nm : Str) (n : Nat) (t : Tf) (φ : Fd) : Prop where
  ex : ∃ f fd ps C, FnOk P w K mg base (L2.CX P w) k f fd ps (spF (P, w, mg) t n φ) ∧ ClsS K mg nm C ∧ L2.Mk K C f ∧ Binds K fd ps []
def madeF (nm : Str) (n : Nat) (φ : Fd) (ds : List D) (m1 : Sto) : R D := match callF n φ (.obj m1.length :: ds) (m1 ++ [.ins nm []]) with
  | .ok .non m2 => .ok (.obj m1.length) m2
  | .exc c v m2 => .exc c v m2
  | _ => .bad
def sMake (nm : Str) (n : Nat) (φ : Fd) (g : SL) : SE := fun r m => bindR (g r m) fun ds m1 => madeF nm n φ ds m1
theorem de_make {X : Cx} {w : Wi} {k n : Nat} {nm : Str} {φ : Fd} {e : Expr} {es : List Expr} {g : SL} {p pos : Pos} (M : Maker X.prog X.w X.K X.mg X.base k nm n w.tf φ) (hr : Room (k + 1) X.A) (tk : L2.Takes X w.W) (hg : Gl X nm) (ha : DA X w (e :: es) g) (hdb : (nm == ("__debug__" : Str)) = false := by decide)
    (he : starEach (e :: es) X.env = (false, eval e X.env) :: starEach es X.env := by rfl) (hpl : (backTo pos (starEach es X.env)).any (·.1) = false := by rfl) : DE X w (.Call (.Name nm p) (e :: es) [] pos) (sMake nm n φ g) := by
  obtain ⟨f, fd, ps, C, F, S, hM, hb⟩ := M.ex
  refine PE.imp (pe_makeE hM F hr hg S.g hb (fun σ => passAt tk σ) ha hdb he hpl) fun s H Q ⟨x, r, m, R, q⟩ => ?_
  refine rd_bind R q fun ds m1 vs y H1 R1 p1 st1 q1 a dx hna hnd hne => ?_
  unfold madeF at q1
  unfold callF at q1
  by_cases hl : (D.obj m1.length :: ds).length = n
  · rw [if_pos hl] at q1
    obtain ⟨R2, st2⟩ := R1.made (nm := nm) (C := C) hna hnd hne S.g
    have hio : (y.io ++ [a])[m1.length]? = some a := by
      rw [Stos.len R1.sto, List.getElem?_append_right (Nat.le_refl _), Nat.sub_self]
      rfl
    refine ⟨by rw [← hl, List.length_cons, List.length_cons, ← p1.length], (⟨y.F, y.io ++ [a], y.A1, y.A2 ++ [a, dx]⟩ : Sx (pwOf X)).w1 [], m1 ++ [.ins nm []], .obj m1.length :: ds, R2.leave, .cons (.obj hio) (p1.mono st2.st.F st2.st.io), ?_⟩
    cases h : φ (.obj m1.length :: ds) (m1 ++ [.ins nm []]) with
    | bad => rw [h] at q1; exact q1.elim
    | exc c v m2 =>
      rw [h] at q1
      intro cls d z H' Rz ex stz
      obtain ⟨R', st'⟩ := R2.back ⟨stz.st.F, stz.st.io, stz.st.keep, stz.st.there, stz.st.newF, stz.st.newA⟩ Rz
      exact q1 cls d _ H' R' ex (st2.trans st')
    | ok d m2 =>
      rw [h] at q1
      cases d with
      | non =>
        intro v z H' Rz pv stz
        obtain ⟨R', st'⟩ := R2.back ⟨stz.st.F, stz.st.io, stz.st.keep, stz.st.there, stz.st.newF, stz.st.newA⟩ Rz
        cases pv
        exact ⟨rfl, q1 (.ref a) _ H' R' (.obj (st'.st.io.get hio)) (st2.trans st')⟩
      | _ => exact q1.elim
  · rw [if_neg hl] at q1
    exact q1.elim
/-! ### from the text -/
/-- a class of the text with fields: what a Maker and its methods want -/
structure MkF (K : PySem.W.Frag) (mg : Str → Option Value) (nm : Str) (C : Addr) : Prop where
  s : ClsS K mg nm C
  mks : PySem.W.makesIn K C = true
  kp : PySem.W.keepIn K (.ref C) = true
/-- a def in the class -/
structure MetIs (K : PySem.W.Frag) (C : Addr) (mm qual : Str) (st : Stmt) : Prop where
  ex : ∃ f fd, L2.Fun K mm qual st f fd ∧ PySem.W.findIn K (.ref C) mm = some (some (.ref f)) ∧ PySem.W.isFn K (.ref f) = true
abbrev BindsM (st : Stmt) (mm qual : Str) (ps : List Str) : Prop := ∀ (kV doc pm : Value) (an : Option Addr) (cdv ct : Value) (us : List Value), us.length = ps.length → bindArgs (PySem.W.fnOf mm qual (defArgs st) (defBody st) (defScope st) .none kV doc pm an cdv ct) ⟨us, []⟩ = pure (ps.zip us)
section
variable {P : Program} {w : World} {K : PySem.W.Frag} {mg : Str → Option Value} {base : Heap} {k : Nat} {nm mm qual : Str} {C : Addr} {st : Stmt} {N ps : List Str} {t : Tf} {b : SS}
theorem Maker.of (S : MkF K mg nm C) (D : MetIs K C "__init__" qual st) (Sc : FnScope N ps (defScope st)) (hb : BindsM st "__init__" qual ps)
    (hbody : ∀ (f : Addr) (cdv : Value) (A : Around) (outer : List PySem.Env) (s : Shared) (H : Hp) (E : XK), Room k (A.deeper (envOfC qual (defScope st) s.heap.objs.size f cdv)) → DSs (cxOf (L2.CX P w) P w K mg base N qual (defScope st) f cdv A outer s H E) (t.wi E) (defBody st) b) :
    Maker P w K mg base (k + 1) nm ps.length t (fD N b) := by
  obtain ⟨f, fd, F, h1, h2⟩ := D.ex
  exact ⟨f, fd, ps, C, fn_def F Sc (hbody f), S.s, ⟨S.mks, h1, h2, S.kp⟩, F.binds hb⟩
theorem MCal.of (S : MkF K mg nm C) (D : MetIs K C mm qual st) (Sc : FnScope N ps (defScope st)) (hb : BindsM st mm qual ps)
    (hbody : ∀ (f : Addr) (cdv : Value) (A : Around) (outer : List PySem.Env) (s : Shared) (H : Hp) (E : XK), Room k (A.deeper (envOfC qual (defScope st) s.heap.objs.size f cdv)) → DSs (cxOf (L2.CX P w) P w K mg base N qual (defScope st) f cdv A outer s H E) (t.wi E) (defBody st) b) :
    MCal P w K mg base (k + 1) nm mm ps.length t (fD N b) := by
  obtain ⟨f, fd, F, h1, h2⟩ := D.ex
  exact ⟨f, fd, ps, C, fn_def F Sc (hbody f), S.s, ⟨h1, h2, F.kp⟩, F.binds hb⟩
theorem Maker.mono {j n : Nat} {φ : Fd} (M : Maker P w K mg base j nm n t φ) (h : j ≤ k) : Maker P w K mg base k nm n t φ := by
  obtain ⟨f, fd, ps, C, F, r⟩ := M.ex
  exact ⟨f, fd, ps, C, F.mono h, r⟩
end
end Dl
set_option autoImplicit true
/-! The data layer: tuple(range(n)), list(range(n)). -/
namespace Dl
open PySem PySem.Spec PyProof.Rows L2 TL
theorem reps_rg {F : Hp} {io : List Addr} (n : Nat) : Reps F io (rangeL 0 n) (rgV 0 n) := by
  unfold rangeL rgV
  have e : ((n : Int) - 0).toNat = n := by omega
  rw [e]
  have h : ∀ l : List Nat, Reps F io (l.map fun (i : Nat) => D.int (0 + (i : Int))) (l.map fun i => V.int (0 + (i : Nat))) := fun l => by
    induction l with
    | nil => exact .nil
    | cons a l ih => exact .cons (.int _) ih
  exact h _
def fTupRg : D → Sto → R D
  | .int n, m => if 0 ≤ n ∧ n ≤ 1000 then .ok (.tup (rangeL 0 n.toNat)) m else .bad
  | _, _ => .bad
def fLstRg : D → Sto → R D
  | .int n, m => if 0 ≤ n ∧ n ≤ 1000 then .ok (.lst (rangeL 0 n.toNat)) m else .bad
  | _, _ => .bad
def sTupRg (fa : SE) : SE := fun r m => bindR (fa r m) fTupRg
def sLstRg (fa : SE) : SE := fun r m => bindR (fa r m) fLstRg
section
variable {X : Cx} {w : Wi} {a : Expr} {fa : SE} {p p2 pos pos2 : Pos}
theorem de_tupRg (hc : X.calm = true) (hg : Gl X "tuple") (hm : X.mg "tuple" = none) (hg2 : Gl X "range") (hm2 : X.mg "range" = none) (ha : DE X w a fa) (na : starEach [a] X.env = (false, eval a X.env) :: starEach [] X.env := by rfl)
    (na2 : starEach [.Call (.Name "range" p2) [a] [] pos2] X.env = (false, eval (.Call (.Name "range" p2) [a] [] pos2) X.env) :: starEach [] X.env := by rfl) : DE X w (.Call (.Name "tuple" p) [.Call (.Name "range" p2) [a] [] pos2] [] pos) (sTupRg fa) :=
  PE.imp (pe_tupRg hc hg hm (prg_1 hg2 hm2 ha na) na2) fun s H Q ⟨x, r, m, R, q⟩ => by
    refine rd_bind R q fun d m1 v y H1 R1 p1 st1 q1 => ?_
    cases d with
    | int n =>
      cases p1
      obtain ⟨⟨h0, h1⟩, q1⟩ := Fin.ite q1
      obtain ⟨k, rfl⟩ : ∃ k : Nat, n = k := ⟨n.toNat, by omega⟩
      refine ⟨k, rfl, RgOk.of_le (by omega) (by omega) (by omega) (by omega), Fin.tuple R1 q1 ?_⟩
      rw [Int.toNat_natCast]
      exact reps_rg k
    | _ => exact q1.elim
theorem de_lstRg (hc : X.calm = true) (hg : Gl X "list") (hm : X.mg "list" = none) (hg2 : Gl X "range") (hm2 : X.mg "range" = none) (ha : DE X w a fa) (na : starEach [a] X.env = (false, eval a X.env) :: starEach [] X.env := by rfl)
    (na2 : starEach [.Call (.Name "range" p2) [a] [] pos2] X.env = (false, eval (.Call (.Name "range" p2) [a] [] pos2) X.env) :: starEach [] X.env := by rfl) : DE X w (.Call (.Name "list" p) [.Call (.Name "range" p2) [a] [] pos2] [] pos) (sLstRg fa) :=
  PE.imp (pe_listRg hc hg hm (prg_1 hg2 hm2 ha na) na2) fun s H Q ⟨x, r, m, R, q⟩ => by
    refine rd_bind R q fun d m1 v y H1 R1 p1 st1 q1 => ?_
    cases d with
    | int n =>
      cases p1
      obtain ⟨⟨h0, h1⟩, q1⟩ := Fin.ite q1
      obtain ⟨k, rfl⟩ : ∃ k : Nat, n = k := ⟨n.toNat, by omega⟩
      refine ⟨k, rfl, RgOk.of_le (by omega) (by omega) (by omega) (by omega), Fin.list R1 q1 ?_⟩
      rw [Int.toNat_natCast]
      exact reps_rg k
    | _ => exact q1.elim
end
end Dl
namespace Dl
open PySem PySem.Spec PyProof.Rows L2 TL
def n_need_row : List Str := ["row", "place", "sign"]
def b_need_row1 : SS := sSeq (sIfS (sOr (sB (sBin opEq (sPk 1) (sC (.int 12)))) (sB (sBin opNin (sPk 2) (sC (.str [97, 98, 99, 100, 101]))))) (sRaiseF 0 (sVar 1)) (sSkip)) (sForget 1 (sForget 2 (sSkip)))
def g_need_row2 : Gm := gTup (gsCons (gN 1) (gsCons (gN 2) (gsNil)))
def b_need_row : SS := sSeq (sFor (sEn (aCons (sVar 0) (aNil))) (g_need_row2) (b_need_row1)) (sIfS (sB (sBin opEq (sPk 0) (sC (.str [])))) (sRaiseF 0 (sC (.int 0))) (sSkip))
def f_need_row : Fd := fD n_need_row b_need_row
def n_need_bars : List Str := ["row", "bars", "number", "gap"]
def b_need_bars1 : SS := sSeq (sIfS (sOr (sNot (sB (sChain opLe opLt (sC (.int 0)) (sPk 3) (sBin opSub (sCall fLen (aCons (sPk 0) (aNil))) (sC (.int 1)))))) (sAnd (sB (sBin opGt (sPk 2) (sC (.int 0)))) (sB (sBin opLe (sPk 3) (sBin opIx (sPk 1) (sBin opSub (sPk 2) (sC (.int 1)))))))) (sRaiseF 1 (sVar 2)) (sSkip)) (sForget 2 (sForget 3 (sSkip)))
def g_need_bars2 : Gm := gTup (gsCons (gN 2) (gsCons (gN 3) (gsNil)))
def b_need_bars : SS := sFor (sEn (aCons (sVar 1) (aNil))) (g_need_bars2) (b_need_bars1)
def f_need_bars : Fd := fD n_need_bars b_need_bars
def n_is_kind : List Str := ["sign"]
def b_is_kind : SS := sRet (sAndV (sBin opEq (sCall fLen (aCons (sPk 0) (aNil))) (sC (.int 1))) (sBin opIn (sPk 0) (sC (.str [97, 98, 99, 100, 101]))))
def f_is_kind : Fd := fD n_is_kind b_is_kind
def n_is_rule : List Str := ["rule"]
def b_is_rule : SS := sSeq (sIfS (sOr (sB (sBin opNe (sCall fLen (aCons (sPk 0) (aNil))) (sC (.int 5)))) (sOr (sNot (sB (sCall (callF 1 f_is_kind) (aCons (sBin opIx (sPk 0) (sC (.int 0))) (aNil))))) (sOr (sNot (sB (sCall (callF 1 f_is_kind) (aCons (sBin opIx (sPk 0) (sC (.int 1))) (aNil))))) (sNot (sB (sCall (callF 1 f_is_kind) (aCons (sBin opIx (sPk 0) (sC (.int 4))) (aNil)))))))) (sRet (sC (.bl false))) (sSkip)) (sRet (sAndV (sBin opNe (sBin opIx (sPk 0) (sC (.int 4))) (sBin opIx (sPk 0) (sC (.int 0)))) (sAndV (sChain opLe opLe (sC (.int 1)) (sBin opIx (sPk 0) (sC (.int 2))) (sC (.int 2))) (sChain opLe opLe (sC (.int 1)) (sBin opIx (sPk 0) (sC (.int 3))) (sC (.int 4))))))
def f_is_rule : Fd := fD n_is_rule b_is_rule
def n_need_rules : List Str := ["rules", "number", "rule"]
def b_need_rules1 : SS := sSeq (sIfS (sOr (sB (sBin opEq (sPk 1) (sC (.int 5)))) (sNot (sB (sCall (callF 1 f_is_rule) (aCons (sVar 2) (aNil)))))) (sRaiseF 2 (sVar 1)) (sSkip)) (sForget 1 (sForget 2 (sSkip)))
def g_need_rules2 : Gm := gTup (gsCons (gN 1) (gsCons (gN 2) (gsNil)))
def b_need_rules : SS := sFor (sEn (aCons (sVar 0) (aNil))) (g_need_rules2) (b_need_rules1)
def f_need_rules : Fd := fD n_need_rules b_need_rules
def n_need_world : List Str := ["world", "row", "bars", "rules"]
def b_need_world : SS := sSeq (sAsg (gTup (gsCons (gN 1) (gsCons (gN 2) (gsCons (gN 3) (gsNil))))) (sVar 0)) (sSeq (sExpr (sCall (callF 1 f_need_row) (aCons (sVar 1) (aNil)))) (sSeq (sExpr (sCall (callF 2 f_need_bars) (aCons (sVar 1) (aCons (sVar 2) (aNil))))) (sExpr (sCall (callF 1 f_need_rules) (aCons (sVar 3) (aNil))))))
def f_need_world : Fd := fD n_need_world b_need_world
def n_begun : List Str := ["row", "rules", "kind"]
def g_begun1 : Gm := gN 2
def f_begun2 : SE := sBin opMul (sTup (aCons (sC (.int 0)) (aNil))) (sCall fLen (aCons (sPk 1) (aNil)))
def b_begun : SS := sRet (sCall fTuple (aCons (sLc [2] (sIt (sVar 0)) (g_begun1) (sYes) (f_begun2)) (aNil)))
def f_begun : Fd := fD n_begun b_begun
def n_beside : List Str := ["row", "bars", "place", "found"]
def b_beside : SS := sSeq (sSet 3 (cL (aNil))) (sSeq (sIfS (sAnd (sB (sBin opGt (sPk 2) (sC (.int 0)))) (sB (sBin opNin (sBin opSub (sPk 2) (sC (.int 1))) (sPk 1)))) (sApp 3 (sBin opIx (sPk 0) (sBin opSub (sPk 2) (sC (.int 1))))) (sSkip)) (sSeq (sIfS (sAnd (sB (sBin opLt (sPk 2) (sBin opSub (sCall fLen (aCons (sPk 0) (aNil))) (sC (.int 1))))) (sB (sBin opNin (sPk 2) (sPk 1)))) (sApp 3 (sBin opIx (sPk 0) (sBin opAdd (sPk 2) (sC (.int 1))))) (sSkip)) (sFreeze 3 (sRet (sVar 3)))))
def f_beside : Fd := fD n_beside b_beside
def n_counted : List Str := ["row", "bars", "rules", "counts", "found", "place", "kind", "near", "new", "rule", "old", "is_so"]
def b_counted1 : SS := sSeq (sSet 11 (cV (sAndV (sBin opEq (sBin opIx (sPk 9) (sC (.int 0))) (sPk 6)) (sBin opGe (sMeth "list" fCnt (sPk 7) (aCons (sBin opIx (sPk 9) (sC (.int 1))) aNil)) (sBin opIx (sPk 9) (sC (.int 2))))))) (sSeq (sApp 8 (sIf (sB (sVar 11)) (sCall fMin (aCons (sBin opIx (sPk 9) (sC (.int 3))) (aCons (sBin opAdd (sPk 10) (sC (.int 1))) (aNil)))) (sC (.int 0)))) (sForget 9 (sForget 10 (sForget 11 (sSkip)))))
def g_counted2 : Gm := gTup (gsCons (gN 9) (gsCons (gN 10) (gsNil)))
def b_counted3 : SS := sSeq (sSet 7 (cV (sCall (callF 3 f_beside) (aCons (sVar 0) (aCons (sVar 1) (aCons (sVar 5) (aNil))))))) (sSeq (sSet 8 (cL (aNil))) (sSeq (sFor (sZ2 (aCons (sVar 2) (aCons (sBin opIx (sPk 3) (sPk 5)) (aNil)))) (g_counted2) (b_counted1)) (sSeq (sApp 4 (sCall fTuple (aCons (sPk 8) (aNil)))) (sForget 5 (sForget 6 (sForget 7 (sForget 8 (sForget 9 (sForget 10 (sForget 11 (sSkip)))))))))))
def g_counted4 : Gm := gTup (gsCons (gN 5) (gsCons (gN 6) (gsNil)))
def b_counted : SS := sSeq (sSet 4 (cL (aNil))) (sSeq (sFor (sEn (aCons (sVar 0) (aNil))) (g_counted4) (b_counted3)) (sFreeze 4 (sRet (sVar 4))))
def f_counted : Fd := fD n_counted b_counted
def n_turned : List Str := ["row", "rules", "counts", "kinds", "found", "kind", "some", "ripe", "rule", "count"]
def g_turned1 : Gm := gTup (gsCons (gN 8) (gsCons (gN 9) (gsNil)))
def t_turned2 : SB := sB (sBin opEq (sPk 9) (sBin opIx (sPk 8) (sC (.int 3))))
def f_turned3 : SE := sBin opIx (sPk 8) (sC (.int 4))
def b_turned4 : SS := sSeq (sAsg (gN 7) (sLc [8, 9] (sZ2 (aCons (sVar 1) (aCons (sVar 6) (aNil)))) (g_turned1) (t_turned2) (f_turned3))) (sSeq (sApp 3 (sIf (sB (sBin opNe (sPk 7) (sLst (aNil)))) (sBin opIx (sPk 7) (sC (.int 0))) (sVar 5))) (sSeq (sApp 4 (sIf (sB (sBin opNe (sPk 7) (sLst (aNil)))) (sBin opMul (sTup (aCons (sC (.int 0)) (aNil))) (sCall fLen (aCons (sPk 1) (aNil)))) (sVar 6))) (sForget 5 (sForget 6 (sForget 7 (sSkip))))))
def g_turned5 : Gm := gTup (gsCons (gN 5) (gsCons (gN 6) (gsNil)))
def b_turned : SS := sSeq (sPar 3 4 (cL (aNil)) (cL (aNil))) (sSeq (sFor (sZ2 (aCons (sVar 0) (aCons (sVar 2) (aNil)))) (g_turned5) (b_turned4)) (sRet (sTup (aCons (sMeth "str" fJoin (sC (.str [])) (aCons (sPk 3) aNil)) (aCons (sCall fTuple (aCons (sPk 4) (aNil))) (aNil))))))
def f_turned : Fd := fD n_turned b_turned
def n_beat_of : List Str := ["world", "row", "counts"]
def b_beat_of : SS := sRet (sCall (callF 3 f_turned) (aCons (sVar 1) (aCons (sBin opIx (sPk 0) (sC (.int 2))) (aCons (sCall (callF 4 f_counted) (aCons (sVar 1) (aCons (sBin opIx (sPk 0) (sC (.int 1))) (aCons (sBin opIx (sPk 0) (sC (.int 2))) (aCons (sVar 2) (aNil)))))) (aNil)))))
def f_beat_of : Fd := fD n_beat_of b_beat_of
def n_beats : List Str := ["world", "many", "row", "counts", "found", "turn"]
def b_beats1 : SS := sSeq (sApp 4 (sVar 2)) (sSeq (sAsg (gTup (gsCons (gN 2) (gsCons (gN 3) (gsNil)))) (sCall (callF 3 f_beat_of) (aCons (sVar 0) (aCons (sVar 2) (aCons (sVar 3) (aNil)))))) (sForget 5 (sSkip)))
def g_beats2 : Gm := gN 5
def b_beats : SS := sSeq (sExpr (sCall (callF 1 f_need_world) (aCons (sVar 0) (aNil)))) (sSeq (sIfS (sNot (sB (sChain opLe opLe (sC (.int 0)) (sPk 1) (sC (.int 300))))) (sRaise 3) (sSkip)) (sSeq (sPar 2 3 (cV (sBin opIx (sPk 0) (sC (.int 0)))) (cV (sCall (callF 2 f_begun) (aCons (sBin opIx (sPk 0) (sC (.int 0))) (aCons (sBin opIx (sPk 0) (sC (.int 2))) (aNil)))))) (sSeq (sSet 4 (cL (aNil))) (sSeq (sFor (sRg (aCons (sVar 1) (aNil))) (g_beats2) (b_beats1)) (sFreeze 4 (sRet (sVar 4)))))))
def f_beats : Fd := fD n_beats b_beats
def n_Shelf___init__ : List Str := ["self", "rules", "rule"]
def g_Shelf___init__1 : Gm := gN 2
def f_Shelf___init__2 : SE := sCall fTuple (aCons (sPk 2) (aNil))
def b_Shelf___init__ : SS := sSeq (sExpr (sCall (callF 1 f_need_rules) (aCons (sVar 1) (aNil)))) (sSeq (sSetF "Shelf" 0 "rules" (cV (sCall fTuple (aCons (sLc [2] (sIt (sVar 1)) (g_Shelf___init__1) (sYes) (f_Shelf___init__2)) (aNil))))) (sSeq (sSetF "Shelf" 0 "row" (cV (sC (.str [])))) (sSeq (sSetF "Shelf" 0 "counts" (cV (sTup (aNil)))) (sSeq (sSetF "Shelf" 0 "walls" (cL (aNil))) (sSetF "Shelf" 0 "notes" (cL (aNil)))))))
def f_Shelf___init__ : Fd := fD n_Shelf___init__ b_Shelf___init__
def n_again : List Str := ["rules", "deeds", "shelf", "number", "deed", "e"]
def b_again1 : SS := sSeq ((fun _ _ => .bad)) (sSeq ((fun _ _ => .bad)) (sForget 3 (sForget 4 (sSkip))))
def g_again2 : Gm := gTup (gsCons (gN 3) (gsCons (gN 4) (gsNil)))
def b_again : SS := sSeq (sSet 2 (cV (sMake "Shelf" 2 f_Shelf___init__ (aCons (sVar 0) (aNil))))) (sSeq (sFor (sEn (aCons (sVar 1) (aNil))) (g_again2) (b_again1)) (sRet (sVar 2)))
def f_again : Fd := fD n_again b_again
def f__law_next : Fd := fNext
def n__law_rules : List Str := ["_law_h", "_law_kinds", "_law_many", "_law_found", "_law_k", "_law_kind_here", "_law_near", "_law_later"]
def b__law_rules1 : SS := sStrike [97, 98, 99, 100, 101] 5 6 7 (sCall (callF 2 f__law_next) (aCons (sVar 0) (aCons (sVar 1) (aNil)))) (sBin opIx (sC (.str [97, 98, 99, 100, 101])) (sCall (callF 2 f__law_next) (aCons (sVar 0) (aCons (sVar 1) (aNil))))) (sCall (callF 2 f__law_next) (aCons (sVar 0) (aCons (sCall fMax (aCons (sC (.int 1)) (aCons (sBin opSub (sPk 1) (sC (.int 1))) (aNil)))) (aNil)))) (sSeq (sApp 3 (sTup (aCons (sVar 5) (aCons (sVar 6) (aCons (sBin opAdd (sC (.int 1)) (sBin opDiv (sCall (callF 2 f__law_next) (aCons (sVar 0) (aCons (sC (.int 3)) (aNil)))) (sC (.int 2)))) (aCons (sBin opAdd (sC (.int 1)) (sBin opMul (sCall (callF 2 f__law_next) (aCons (sVar 0) (aCons (sC (.int 4)) (aNil)))) (sCall (callF 2 f__law_next) (aCons (sVar 0) (aCons (sC (.int 2)) (aNil)))))) (aCons (sVar 7) (aNil)))))))) (sForget 4 (sForget 5 (sForget 6 (sForget 7 (sSkip))))))
def g__law_rules2 : Gm := gN 4
def b__law_rules : SS := sSeq (sSet 3 (cL (aNil))) (sSeq (sFor (sRg (aCons (sCall (callF 2 f__law_next) (aCons (sVar 0) (aCons (sBin opAdd (sPk 2) (sC (.int 1))) (aNil)))) (aNil))) (g__law_rules2) (b__law_rules1)) (sRet (sCall fTuple (aCons (sPk 3) (aNil)))))
def f__law_rules : Fd := fD n__law_rules b__law_rules
def n__law_world : List Str := ["_law_h", "_law_jars", "_law_kinds", "_law_many", "_law_row", "_law_k", "_law_bars", "_law_gap"]
def g__law_world1 : Gm := gN 5
def f__law_world2 : SE := sBin opIx (sC (.str [97, 98, 99, 100, 101])) (sCall (callF 2 f__law_next) (aCons (sVar 0) (aCons (sVar 2) (aNil))))
def g__law_world3 : Gm := gN 7
def t__law_world4 : SB := sB (sBin opEq (sCall (callF 2 f__law_next) (aCons (sVar 0) (aCons (sC (.int 5)) (aNil)))) (sC (.int 0)))
def f__law_world5 : SE := sVar 7
def b__law_world : SS := sSeq (sSet 4 (cV (sMeth "str" fJoin (sC (.str [])) (aCons (sLc [5] (sRg (aCons (sBin opAdd (sC (.int 1)) (sCall (callF 2 f__law_next) (aCons (sVar 0) (aCons (sVar 1) (aNil))))) (aNil))) (g__law_world1) (sYes) (f__law_world2)) aNil)))) (sSeq (sSet 6 (cV (sCall fTuple (aCons (sLc [7] (sRg (aCons (sBin opSub (sCall fLen (aCons (sPk 4) (aNil))) (sC (.int 1))) (aNil))) (g__law_world3) (t__law_world4) (f__law_world5)) (aNil))))) (sRet (sTup (aCons (sVar 4) (aCons (sVar 6) (aCons (sCall (callF 3 f__law_rules) (aCons (sVar 0) (aCons (sVar 2) (aCons (sVar 3) (aNil))))) (aNil)))))))
def f__law_world : Fd := fD n__law_world b__law_world
def n_walk : List Str := ["world", "state", "rows", "met_at"]
def b_walk1 : SS := sSeq (sIfS (sB (sBin opEq (sCall fLen (aCons (sPk 2) (aNil))) (sC (.int 5000)))) (sRaise 5) (sSkip)) (sSeq (sPutD 3 (sVar 1) (sCall fLen (aCons (sPk 2) (aNil)))) (sSeq (sApp 2 (sBin opIx (sPk 1) (sC (.int 0)))) (sSet 1 (cV (sCall (callF 3 f_beat_of) (aCons (sVar 0) (aCons (sBin opIx (sPk 1) (sC (.int 0))) (aCons (sBin opIx (sPk 1) (sC (.int 1))) (aNil)))))))))
def t_walk2 : SB := sB (sBin opNinN (sPk 1) (sPk 3))
def b_walk : SS := sSeq (sSet 1 (cV (sTup (aCons (sBin opIx (sPk 0) (sC (.int 0))) (aCons (sCall (callF 2 f_begun) (aCons (sBin opIx (sPk 0) (sC (.int 0))) (aCons (sBin opIx (sPk 0) (sC (.int 2))) (aNil)))) (aNil)))))) (sSeq (sPar 2 3 (cL (aNil)) (cDct)) (sSeq (whileN (t_walk2) (b_walk1) 100000) (sFreeze 2 (sRet (sTup (aCons (sVar 2) (aCons (sBin opIxN (sPk 3) (sPk 1)) (aNil))))))))
def f_walk : Fd := fD n_walk b_walk
def n_period : List Str := ["world", "rows", "first"]
def b_period : SS := sSeq (sExpr (sCall (callF 1 f_need_world) (aCons (sVar 0) (aNil)))) (sSeq (sAsg (gTup (gsCons (gN 1) (gsCons (gN 2) (gsNil)))) (sCall (callF 1 f_walk) (aCons (sVar 0) (aNil)))) (sRet (sTup (aCons (sVar 2) (aCons (sBin opSub (sCall fLen (aCons (sPk 1) (aNil))) (sPk 2)) (aNil))))))
def f_period : Fd := fD n_period b_period
def n_after : List Str := ["world", "many", "rows", "first"]
def b_after : SS := sSeq (sExpr (sCall (callF 1 f_need_world) (aCons (sVar 0) (aNil)))) (sSeq (sIfS (sNot (sB (sChain opLe opLe (sC (.int 0)) (sPk 1) (sC (.int 1000000000000))))) (sRaise 3) (sSkip)) (sSeq (sAsg (gTup (gsCons (gN 2) (gsCons (gN 3) (gsNil)))) (sCall (callF 1 f_walk) (aCons (sVar 0) (aNil)))) (sRet (sIf (sB (sBin opLt (sPk 1) (sCall fLen (aCons (sPk 2) (aNil))))) (sBin opIx (sPk 2) (sPk 1)) (sBin opIx (sPk 2) (sBin opAdd (sPk 3) (sBin opMod (sBin opSub (sPk 1) (sPk 3)) (sBin opSub (sCall fLen (aCons (sPk 2) (aNil))) (sPk 3)))))))))
def f_after : Fd := fD n_after b_after
def n_turns : List Str := ["world", "rows", "first", "found", "place", "kind", "others", "beat", "row"]
def g_turns1 : Gm := gTup (gsCons (gN 7) (gsCons (gN 8) (gsNil)))
def t_turns2 : SB := sB (sBin opNe (sBin opIx (sPk 8) (sPk 4)) (sPk 5))
def f_turns3 : SE := sVar 7
def b_turns4 : SS := sSeq (sAsg (gN 6) (sLc [7, 8] (sEn (aCons (sVar 1) (aNil))) (g_turns1) (t_turns2) (f_turns3))) (sSeq (sApp 3 (sIf (sB (sBin opNe (sPk 6) (sLst (aNil)))) (sBin opIx (sPk 6) (sC (.int 0))) (sC .non))) (sForget 4 (sForget 5 (sForget 6 (sSkip)))))
def g_turns5 : Gm := gTup (gsCons (gN 4) (gsCons (gN 5) (gsNil)))
def b_turns : SS := sSeq (sExpr (sCall (callF 1 f_need_world) (aCons (sVar 0) (aNil)))) (sSeq (sAsg (gTup (gsCons (gN 1) (gsCons (gN 2) (gsNil)))) (sCall (callF 1 f_walk) (aCons (sVar 0) (aNil)))) (sSeq (sSet 3 (cL (aNil))) (sSeq (sFor (sEn (aCons (sBin opIx (sPk 0) (sC (.int 0))) (aNil))) (g_turns5) (b_turns4)) (sFreeze 3 (sRet (sVar 3))))))
def f_turns : Fd := fD n_turns b_turns
def n_often : List Str := ["world", "many", "rows", "first", "sums", "old", "new", "count", "one", "other", "long", "at", "rounds", "end", "start"]
def g_often1 : Gm := gTup (gsCons (gN 7) (gsCons (gN 8) (gsCons (gN 9) (gsNil))))
def f_often2 : SE := sBin opAdd (sPk 7) (sCall fInt (aCons (sBin opNe (sPk 8) (sPk 9)) (aNil)))
def b_often3 : SS := sSeq (sApp 4 (sLc [7, 8, 9] (sZ3 (aCons (sBin opIx (sPk 4) (sNeg (sC (.int 1)))) (aCons (sVar 5) (aCons (sVar 6) (aNil))))) (g_often1) (sYes) (f_often2))) (sForget 5 (sForget 6 (sSkip)))
def g_often4 : Gm := gTup (gsCons (gN 5) (gsCons (gN 6) (gsNil)))
def g_often5 : Gm := gTup (gsCons (gN 7) (gsCons (gN 13) (gsCons (gN 14) (gsNil))))
def f_often6 : SE := sBin opAdd (sPk 7) (sBin opMul (sPk 12) (sBin opSub (sPk 13) (sPk 14)))
def b_often : SS := sSeq (sExpr (sCall (callF 1 f_need_world) (aCons (sVar 0) (aNil)))) (sSeq (sIfS (sNot (sB (sChain opLe opLe (sC (.int 0)) (sPk 1) (sC (.int 1000000000000))))) (sRaise 3) (sSkip)) (sSeq (sAsg (gTup (gsCons (gN 2) (gsCons (gN 3) (gsNil)))) (sCall (callF 1 f_walk) (aCons (sVar 0) (aNil)))) (sSeq (sSet 2 (cV (sBin opAdd (sPk 2) (sLst (aCons (sBin opIx (sPk 2) (sPk 3)) (aNil)))))) (sSeq (sSet 4 (cL (aCons (sBin opMul (sLst (aCons (sC (.int 0)) (aNil))) (sCall fLen (aCons (sBin opIx (sPk 0) (sC (.int 0))) (aNil)))) (aNil)))) (sSeq (sFor (sZ2 (aCons (sVar 2) (aCons (sSl (sPk 2) (oSome (sC (.int 1))) (oNone)) (aNil)))) (g_often4) (b_often3)) (sSeq (sSet 10 (cV (sBin opSub (sBin opSub (sCall fLen (aCons (sPk 2) (aNil))) (sC (.int 1))) (sPk 3)))) (sSeq (sSet 11 (cV (sIf (sB (sBin opLt (sPk 1) (sCall fLen (aCons (sPk 2) (aNil))))) (sVar 1) (sBin opAdd (sPk 3) (sBin opMod (sBin opSub (sPk 1) (sPk 3)) (sPk 10)))))) (sSeq (sSet 12 (cV (sBin opDiv (sBin opSub (sPk 1) (sPk 11)) (sPk 10)))) (sRet (sLc [7, 13, 14] (sZ3 (aCons (sBin opIx (sPk 4) (sPk 11)) (aCons (sBin opIx (sPk 4) (sNeg (sC (.int 1)))) (aCons (sBin opIx (sPk 4) (sPk 3)) (aNil))))) (g_often5) (sYes) (f_often6)))))))))))
def f_often : Fd := fD n_often b_often
def n_need_kept : List Str := ["row", "kept", "number", "place"]
def b_need_kept1 : SS := sSeq (sIfS (sOr (sNot (sB (sChain opLe opLt (sC (.int 0)) (sPk 3) (sCall fLen (aCons (sPk 0) (aNil)))))) (sAnd (sB (sBin opGt (sPk 2) (sC (.int 0)))) (sB (sBin opLe (sPk 3) (sBin opIx (sPk 1) (sBin opSub (sPk 2) (sC (.int 1)))))))) (sRaiseF 4 (sVar 2)) (sSkip)) (sForget 2 (sForget 3 (sSkip)))
def g_need_kept2 : Gm := gTup (gsCons (gN 2) (gsCons (gN 3) (gsNil)))
def b_need_kept : SS := sFor (sEn (aCons (sVar 1) (aNil))) (g_need_kept2) (b_need_kept1)
def f_need_kept : Fd := fD n_need_kept b_need_kept
def n_first_turn : List Str := ["world", "kept", "rows", "first", "beat", "row", "place"]
def b_first_turn1 : SS := sSeq (sIfS (sB (sBin opNe (sBin opIx (sPk 5) (sPk 6)) (sBin opIx (sBin opIx (sPk 0) (sC (.int 0))) (sPk 6)))) (sRet (sTup (aCons (sVar 4) (aCons (sVar 6) (aNil))))) (sSkip)) (sForget 6 (sSkip))
def g_first_turn2 : Gm := gN 6
def b_first_turn3 : SS := sSeq (sFor (sIt (sVar 1)) (g_first_turn2) (b_first_turn1)) (sForget 4 (sForget 5 (sForget 6 (sSkip))))
def g_first_turn4 : Gm := gTup (gsCons (gN 4) (gsCons (gN 5) (gsNil)))
def b_first_turn : SS := sSeq (sAsg (gTup (gsCons (gN 2) (gsCons (gN 3) (gsNil)))) (sCall (callF 1 f_walk) (aCons (sVar 0) (aNil)))) (sSeq (sFor (sEn (aCons (sVar 2) (aNil))) (g_first_turn4) (b_first_turn3)) (sRet (sC .non)))
def f_first_turn : Fd := fD n_first_turn b_first_turn
def n_breaks : List Str := ["world", "kept"]
def b_breaks : SS := sSeq (sExpr (sCall (callF 1 f_need_world) (aCons (sVar 0) (aNil)))) (sSeq (sExpr (sCall (callF 2 f_need_kept) (aCons (sBin opIx (sPk 0) (sC (.int 0))) (aCons (sVar 1) (aNil))))) (sRet (sCall (callF 2 f_first_turn) (aCons (sVar 0) (aCons (sVar 1) (aNil))))))
def f_breaks : Fd := fD n_breaks b_breaks
def n_choices : List Str := ["some", "many", "found", "at", "one", "rest"]
def g_choices1 : Gm := gN 5
def f_choices2 (φ : Fd) : SE := sBin opAdd (sTup (aCons (sVar 4) (aNil))) (sPk 5)
def b_choices3 (φ : Fd) : SS := sSeq (sExt 2 (sLc [5] (sIt (sCall (callF 2 φ) (aCons (sSl (sPk 0) (oSome (sBin opAdd (sPk 3) (sC (.int 1)))) (oNone)) (aCons (sBin opSub (sPk 1) (sC (.int 1))) (aNil))))) (g_choices1) (sYes) (f_choices2 φ))) (sForget 3 (sForget 4 (sSkip)))
def g_choices4 : Gm := gTup (gsCons (gN 3) (gsCons (gN 4) (gsNil)))
def b_choices (φ : Fd) : SS := sSeq (sIfS (sB (sBin opEq (sPk 1) (sC (.int 0)))) (sRet (sLst (aCons (sTup (aNil)) (aNil)))) (sSkip)) (sSeq (sSet 2 (cL (aNil))) (sSeq (sFor (sEn (aCons (sVar 0) (aNil))) (g_choices4) (b_choices3 φ)) (sFreeze 2 (sRet (sVar 2)))))
def f_choices : Fd := recF (fun φ => fD n_choices (b_choices φ)) 8
def n_fewest_bars : List Str := ["world", "kept", "row", "bars", "rules", "free", "gap", "many", "some"]
def g_fewest_bars1 : Gm := gN 6
def t_fewest_bars2 : SB := sB (sBin opNin (sPk 6) (sPk 3))
def f_fewest_bars3 : SE := sVar 6
def b_fewest_bars4 : SS := sSeq ((fun _ _ => .bad)) (sForget 8 (sSkip))
def g_fewest_bars5 : Gm := gN 8
def b_fewest_bars6 : SS := sSeq (sFor (sIt (sCall (callF 2 f_choices) (aCons (sVar 5) (aCons (sVar 7) (aNil))))) (g_fewest_bars5) (b_fewest_bars4)) (sForget 7 (sForget 8 (sSkip)))
def g_fewest_bars7 : Gm := gN 7
def b_fewest_bars : SS := sSeq (sExpr (sCall (callF 1 f_need_world) (aCons (sVar 0) (aNil)))) (sSeq (sExpr (sCall (callF 2 f_need_kept) (aCons (sBin opIx (sPk 0) (sC (.int 0))) (aCons (sVar 1) (aNil))))) (sSeq (sAsg (gTup (gsCons (gN 2) (gsCons (gN 3) (gsCons (gN 4) (gsNil))))) (sVar 0)) (sSeq (sAsg (gN 5) (sLc [6] (sRg (aCons (sBin opSub (sCall fLen (aCons (sPk 2) (aNil))) (sC (.int 1))) (aNil))) (g_fewest_bars1) (t_fewest_bars2) (f_fewest_bars3))) (sSeq (sFor (sRg (aCons (sBin opAdd (sCall fLen (aCons (sPk 5) (aNil))) (sC (.int 1))) (aNil))) (g_fewest_bars7) (b_fewest_bars6)) (sRet (sC .non))))))
def f_fewest_bars : Fd := fD n_fewest_bars b_fewest_bars
def n_fewest_jars : List Str := ["world", "kept", "kind", "row", "bars", "rules", "free", "place", "many", "some", "other", "sign"]
def g_fewest_jars1 : Gm := gN 7
def t_fewest_jars2 : SB := sAnd (sB (sBin opNin (sPk 7) (sPk 1))) (sB (sBin opNe (sBin opIx (sPk 3) (sPk 7)) (sPk 2)))
def f_fewest_jars3 : SE := sVar 7
def g_fewest_jars4 : Gm := gTup (gsCons (gN 7) (gsCons (gN 11) (gsNil)))
def f_fewest_jars5 : SE := sIf (sB (sBin opIn (sPk 7) (sPk 9))) (sVar 2) (sVar 11)
def b_fewest_jars6 : SS := sSeq (sSet 10 (cV (sMeth "str" fJoin (sC (.str [])) (aCons (sLc [7, 11] (sEn (aCons (sVar 3) (aNil))) (g_fewest_jars4) (sYes) (f_fewest_jars5)) aNil)))) (sSeq (sIfS (sB (sBin opIs (sCall (callF 2 f_first_turn) (aCons (sTup (aCons (sVar 10) (aCons (sVar 4) (aCons (sVar 5) (aNil))))) (aCons (sVar 1) (aNil)))) (sC .non))) (sRet (sVar 9)) (sSkip)) (sForget 9 (sForget 10 (sSkip))))
def g_fewest_jars7 : Gm := gN 9
def b_fewest_jars8 : SS := sSeq (sFor (sIt (sCall (callF 2 f_choices) (aCons (sVar 6) (aCons (sVar 8) (aNil))))) (g_fewest_jars7) (b_fewest_jars6)) (sForget 8 (sForget 9 (sForget 10 (sSkip))))
def g_fewest_jars9 : Gm := gN 8
def b_fewest_jars : SS := sSeq (sExpr (sCall (callF 1 f_need_world) (aCons (sVar 0) (aNil)))) (sSeq (sExpr (sCall (callF 2 f_need_kept) (aCons (sBin opIx (sPk 0) (sC (.int 0))) (aCons (sVar 1) (aNil))))) (sSeq (sIfS (sNot (sB (sCall (callF 1 f_is_kind) (aCons (sVar 2) (aNil))))) (sRaiseF 0 (sC (.int 0))) (sSkip)) (sSeq (sAsg (gTup (gsCons (gN 3) (gsCons (gN 4) (gsCons (gN 5) (gsNil))))) (sVar 0)) (sSeq (sAsg (gN 6) (sLc [7] (sRg (aCons (sCall fLen (aCons (sPk 3) (aNil))) (aNil))) (g_fewest_jars1) (t_fewest_jars2) (f_fewest_jars3))) (sSeq (sFor (sRg (aCons (sBin opAdd (sCall fLen (aCons (sPk 6) (aNil))) (sC (.int 1))) (aNil))) (g_fewest_jars9) (b_fewest_jars8)) (sRet (sC .non)))))))
def f_fewest_jars : Fd := fD n_fewest_jars b_fewest_jars
def n_written : List Str := ["world", "row", "bars", "rules", "signs", "place", "kind", "lines", "near", "many", "beats", "later"]
def g_written1 : Gm := gTup (gsCons (gN 5) (gsCons (gN 6) (gsNil)))
def f_written2 : SE := sBin opAdd (sPk 6) (sIf (sB (sBin opIn (sPk 5) (sPk 2))) (sC (.str [124])) (sC (.str [])))
def b_written3 : SS := sSeq (sApp 7 (sMeth "str" fJoin (sC (.str [32])) (aCons (sLst (aCons (sC (.str [114, 117, 108, 101])) (aCons (sVar 6) (aCons (sVar 8) (aCons (sCall fText (aCons (sPk 9) (aNil))) (aCons (sCall fText (aCons (sPk 10) (aNil))) (aCons (sVar 11) (aNil)))))))) aNil))) (sForget 8 (sForget 9 (sForget 10 (sForget 11 (sSkip)))))
def g_written4 : Gm := gTup (gsCons (gN 6) (gsCons (gN 8) (gsCons (gN 9) (gsCons (gN 10) (gsCons (gN 11) (gsNil))))))
def b_written : SS := sSeq (sExpr (sCall (callF 1 f_need_world) (aCons (sVar 0) (aNil)))) (sSeq (sAsg (gTup (gsCons (gN 1) (gsCons (gN 2) (gsCons (gN 3) (gsNil))))) (sVar 0)) (sSeq (sAsg (gN 4) (sLc [5, 6] (sEn (aCons (sVar 1) (aNil))) (g_written1) (sYes) (f_written2))) (sSeq (sSet 7 (cL (aCons (sMeth "str" fJoin (sC (.str [])) (aCons (sPk 4) aNil)) (aNil)))) (sSeq (sFor (sIt (sVar 3)) (g_written4) (b_written3)) (sRet (sMeth "str" fJoin (sC (.str [10])) (aCons (sPk 7) aNil)))))))
def f_written : Fd := fD n_written b_written
def n_next_kind : List Str := ["rules", "left", "kind", "right", "rule"]
def b_next_kind1 : SS := sSeq (sIfS (sAnd (sB (sBin opEq (sBin opIx (sPk 4) (sC (.int 3))) (sC (.int 1)))) (sAnd (sB (sBin opEq (sBin opIx (sPk 4) (sC (.int 0))) (sPk 2))) (sB (sBin opGe (sTC (aCons (sVar 1) (aCons (sVar 3) (aNil))) (sBin opIx (sPk 4) (sC (.int 1)))) (sBin opIx (sPk 4) (sC (.int 2))))))) (sRet (sBin opIx (sPk 4) (sC (.int 4)))) (sSkip)) (sForget 4 (sSkip))
def g_next_kind2 : Gm := gN 4
def b_next_kind : SS := sSeq (sFor (sIt (sVar 0)) (g_next_kind2) (b_next_kind1)) (sRet (sVar 2))
def f_next_kind : Fd := fD n_next_kind b_next_kind
def n_side : List Str := ["bars", "gap", "kind"]
def b_side : SS := sRet (sIf (sB (sBin opIn (sPk 1) (sPk 0))) (sC (.str [])) (sVar 2))
def f_side : Fd := fD n_side b_side
def n_fits : List Str := ["world", "place", "left", "kind", "right", "row", "bars", "rules", "one", "other"]
def b_fits : SS := sSeq (sAsg (gTup (gsCons (gN 5) (gsCons (gN 6) (gsCons (gN 7) (gsNil))))) (sVar 0)) (sSeq (sSet 8 (cV (sIf (sB (sBin opGt (sPk 1) (sC (.int 0)))) (sCall (callF 3 f_side) (aCons (sVar 6) (aCons (sBin opSub (sPk 1) (sC (.int 1))) (aCons (sVar 2) (aNil))))) (sC (.str []))))) (sSeq (sSet 9 (cV (sIf (sB (sBin opLt (sPk 1) (sBin opSub (sCall fLen (aCons (sPk 5) (aNil))) (sC (.int 1))))) (sCall (callF 3 f_side) (aCons (sVar 6) (aCons (sVar 1) (aCons (sVar 4) (aNil))))) (sC (.str []))))) (sRet (sBin opEq (sCall (callF 4 f_next_kind) (aCons (sVar 7) (aCons (sVar 8) (aCons (sVar 3) (aCons (sVar 9) (aNil)))))) (sBin opIx (sPk 5) (sPk 1))))))
def f_fits : Fd := fD n_fits b_fits
def n_how_many : List Str := ["world", "row", "level", "kind", "place", "later", "left", "many", "right", "key"]
def g_how_many1 : Gm := gN 3
def f_how_many2 : SE := sTup (aCons (sC (.str [])) (aCons (sVar 3) (aNil)))
def f_how_many3 : SE := sC (.int 1)
def b_how_many4 : SS := sSeq (sIfS (sB (sCall (callF 5 f_fits) (aCons (sVar 0) (aCons (sVar 4) (aCons (sVar 6) (aCons (sVar 3) (aCons (sVar 8) (aNil)))))))) (sSeq (sSet 9 (cV (sTup (aCons (sVar 3) (aCons (sVar 8) (aNil)))))) (sPutD 5 (sVar 9) (sBin opAdd (sGet2 5 (sVar 9) (sC (.int 0))) (sPk 7)))) (sSkip)) (sForget 8 (sForget 9 (sSkip)))
def g_how_many5 : Gm := gN 8
def b_how_many6 : SS := sSeq (sFor (sIt (sIf (sB (sBin opLt (sPk 4) (sBin opSub (sCall fLen (aCons (sPk 1) (aNil))) (sC (.int 1))))) (sC (.str [97, 98, 99, 100, 101])) (sTup (aCons (sC (.str [])) (aNil))))) (g_how_many5) (b_how_many4)) (sForget 6 (sForget 7 (sForget 8 (sForget 9 (sSkip)))))
def g_how_many7 : Gm := gTup (gsCons (gTup (gsCons (gN 6) (gsCons (gN 3) (gsNil)))) (gsCons (gN 7) (gsNil)))
def b_how_many8 : SS := sSeq (sSet 5 (cDct)) (sSeq (sFor (sItems (sVar 2)) (g_how_many7) (b_how_many6)) (sFreeze 5 (sSeq (sSet 2 (cV (sVar 5))) (sForget 4 (sForget 5 (sForget 6 (sForget 7 (sForget 8 (sForget 9 (sSkip))))))))))
def g_how_many9 : Gm := gN 4
def b_how_many : SS := sSeq (sExpr (sCall (callF 1 f_need_world) (aCons (sVar 0) (aNil)))) (sSeq (sSet 1 (cV (sBin opIx (sPk 0) (sC (.int 0))))) (sSeq (sAsg (gN 2) (sDc [3] (sIt (sC (.str [97, 98, 99, 100, 101]))) (g_how_many1) (f_how_many2) (f_how_many3))) (sSeq (sFor (sRg (aCons (sCall fLen (aCons (sPk 1) (aNil))) (aNil))) (g_how_many9) (b_how_many8)) (sRet (sSumV (sVar 2))))))
def f_how_many : Fd := fD n_how_many b_how_many
def n_sources : List Str := ["world", "row", "level", "kind", "place", "later", "some", "right"]
def g_sources1 : Gm := gN 3
def f_sources2 : SE := sVar 3
def b_sources3 : SS := sSeq (sIfS (sB (sCall (callF 5 f_fits) (aCons (sVar 0) (aCons (sVar 4) (aCons (sIf (sB (sBin opGt (sPk 4) (sC (.int 0)))) (sBin opIx (sPk 6) (sBin opSub (sPk 4) (sC (.int 1)))) (sC (.str []))) (aCons (sBin opIx (sPk 6) (sPk 4)) (aCons (sVar 7) (aNil)))))))) (sApp 5 (sBin opAdd (sPk 6) (sPk 7))) (sSkip)) (sForget 7 (sSkip))
def g_sources4 : Gm := gN 7
def b_sources5 : SS := sSeq (sFor (sIt (sIf (sB (sBin opLt (sPk 4) (sBin opSub (sCall fLen (aCons (sPk 1) (aNil))) (sC (.int 1))))) (sC (.str [97, 98, 99, 100, 101])) (sTup (aCons (sC (.str [])) (aNil))))) (g_sources4) (b_sources3)) (sForget 6 (sForget 7 (sSkip)))
def g_sources6 : Gm := gN 6
def b_sources7 : SS := sSeq (sSet 5 (cL (aNil))) (sSeq (sFor (sIt (sVar 2)) (g_sources6) (b_sources5)) (sFreeze 5 (sSeq (sSet 2 (cV (sVar 5))) (sForget 4 (sForget 5 (sForget 6 (sForget 7 (sSkip))))))))
def g_sources8 : Gm := gN 4
def b_sources : SS := sSeq (sIfS (sB (sBin opGt (sCall (callF 1 f_how_many) (aCons (sVar 0) (aNil))) (sC (.int 2000)))) (sRaise 5) (sSkip)) (sSeq (sSet 1 (cV (sBin opIx (sPk 0) (sC (.int 0))))) (sSeq (sAsg (gN 2) (sLc [3] (sIt (sC (.str [97, 98, 99, 100, 101]))) (g_sources1) (sYes) (f_sources2))) (sSeq (sFor (sRg (aCons (sCall fLen (aCons (sPk 1) (aNil))) (aNil))) (g_sources8) (b_sources7)) ((fun _ _ => .bad)))))
def f_sources : Fd := fD n_sources b_sources
def n__law_refusals : List Str := ["_law_world_here", "_law_works", "_law_call"]
def KD__law_kind : Nat → D → Option D := fun c v => match c, v with
  | 0, .int i => some (.tup [.str [114, 111, 119], .int i])
  | 1, .int i => some (.tup [.str [98, 97, 114, 115], .int i])
  | 2, .int i => some (.tup [.str [114, 117, 108, 101, 115], .int i])
  | 3, .own [] [] => some (.tup [.str [99, 111, 117, 110, 116], .int 0])
  | 4, .int i => some (.tup [.str [107, 101, 112, 116], .int i])
  | 5, .own [] [] => some (.tup [.str [109, 97, 110, 121], .int 0])
  | _, _ => none
def lt__law_refusals_0 : LamT := ⟨["_law_world_here"], 0, [0], sCall (callF 2 f_beats) (aCons (sVar 0) (aCons (sNeg (sC (.int 1))) (aNil)))⟩
def lt__law_refusals_1 : LamT := ⟨["_law_a", "_law_world_here"], 1, [0], sCall (callF 2 f_after) (aCons (sVar 1) (aCons (sNeg (sC (.int 1))) (aNil)))⟩
def lt__law_refusals_2 : LamT := ⟨["_law_b", "_law_world_here"], 1, [0], sCall (callF 1 f_period) (aCons (sVar 1) (aNil))⟩
def lt__law_refusals_3 : LamT := ⟨["_law_world_here"], 0, [0], sCall (callF 1 f_turns) (aCons (sVar 0) (aNil))⟩
def lt__law_refusals_4 : LamT := ⟨["_law_a", "_law_world_here"], 1, [0], sCall (callF 2 f_often) (aCons (sVar 1) (aCons (sNeg (sC (.int 1))) (aNil)))⟩
def lt__law_refusals_5 : LamT := ⟨["_law_b", "_law_world_here"], 1, [0], sCall (callF 2 f_breaks) (aCons (sVar 1) (aCons (sTup (aCons (sNeg (sC (.int 1))) (aNil))) (aNil)))⟩
def lt__law_refusals_6 : LamT := ⟨["_law_world_here"], 0, [0], sCall (callF 2 f_fewest_bars) (aCons (sVar 0) (aCons (sTup (aCons (sNeg (sC (.int 1))) (aNil))) (aNil)))⟩
def lt__law_refusals_7 : LamT := ⟨["_law_world_here"], 0, [0], sCall (callF 3 f_fewest_jars) (aCons (sVar 0) (aCons (sTup (aCons (sNeg (sC (.int 1))) (aNil))) (aCons (sC (.str [120])) (aNil))))⟩
def lt__law_refusals_8 : LamT := ⟨["_law_a", "_law_world_here"], 1, [0], sCall (callF 1 f_how_many) (aCons (sVar 1) (aNil))⟩
def lt__law_refusals_9 : LamT := ⟨["_law_b", "_law_world_here"], 1, [0], sCall (callF 1 f_sources) (aCons (sVar 1) (aNil))⟩
def lt__law_refusals_10 : LamT := ⟨["_law_world_here"], 0, [0], sCall (callF 1 f_written) (aCons (sVar 0) (aNil))⟩
def LT__law_refusals : Nat → Option LamT := fun k => match k with
  | 0 => some lt__law_refusals_0
  | 1 => some lt__law_refusals_1
  | 2 => some lt__law_refusals_2
  | 3 => some lt__law_refusals_3
  | 4 => some lt__law_refusals_4
  | 5 => some lt__law_refusals_5
  | 6 => some lt__law_refusals_6
  | 7 => some lt__law_refusals_7
  | 8 => some lt__law_refusals_8
  | 9 => some lt__law_refusals_9
  | 10 => some lt__law_refusals_10
  | _ => none
noncomputable def b__law_refusals [LamC] : SS := sSeq (sSet 1 (cL (aCons (sLamN 2 0) (aCons (sLamN 2 1) (aCons (sLamN 2 2) (aNil)))))) (sSeq (sSet 1 (cCat (sPk 1) (sLst (aCons (sLamN 2 3) (aCons (sLamN 2 4) (aCons (sLamN 2 5) (aNil))))))) (sSeq (sApp 1 (sLamN 2 6)) (sSeq (sSet 1 (cCat (sPk 1) (sLst (aCons (sLamN 2 7) (aCons (sLamN 2 8) (aCons (sLamN 2 9) (aNil))))))) (sRet (sLc [2] (sIt (sBin opAdd (sPk 1) (sLst (aCons (sLamN 2 10) (aNil))))) (gN 2) sYes (sKind LT__law_refusals KD__law_kind (sVar 2)))))))
noncomputable def f__law_refusals [Lam2C] : Fd := indF n__law_refusals (fun C => @b__law_refusals C)
def n_law : List Str := ["_law_script", "_law_h", "_law_turn", "_law_row", "_law_bars", "_law_rules_here", "_law_far", "_law_at", "_law_bad", "_law_odd", "_law_gap", "_law_works", "_law_call", "_law_six", "_law_found"]
def lt_law_0 : LamT := ⟨["_law_bad"], 0, [8], sMake "Shelf" 2 f_Shelf___init__ (aCons (sVar 0) (aNil))⟩
def lt_law_1 : LamT := ⟨["_law_a", "_law_bad"], 1, [8], sCall (callF 2 f_again) (aCons (sVar 1) (aCons (sLst (aCons (sTup (aNil)) (aNil))) (aNil)))⟩
def LT_law : Nat → Option LamT := fun k => match k with
  | 0 => some lt_law_0
  | 1 => some lt_law_1
  | _ => none
noncomputable def g_law1 [LamC] [Lam2C] : Gm := gN 10
noncomputable def f_law2 [LamC] [Lam2C] : SE := sBin opSub (sPk 10) (sCall (callF 2 f__law_next) (aCons (sVar 1) (aCons (sBin opAdd (sPk 10) (sC (.int 1))) (aNil))))
noncomputable def b_law3 [LamC] [Lam2C] : SS := sSeq (sAsg (gTup (gsCons (gN 3) (gsCons (gN 4) (gsCons (gN 5) (gsNil))))) (sCall (callF 4 f__law_world) (aCons (sVar 1) (aCons (sC (.int 11)) (aCons (sC (.int 5)) (aCons (sC (.int 4)) (aNil))))))) (sSeq (sPar 6 7 (cV (sCall (callF 2 f__law_next) (aCons (sVar 1) (aCons (sBin opIx (sLst (aCons (sC (.int 1)) (aCons (sBin opPow (sC (.int 10)) (sC (.int 6))) (aNil)))) (sCall (callF 2 f__law_next) (aCons (sVar 1) (aCons (sC (.int 2)) (aNil))))) (aNil))))) (cV (sCall (callF 2 f__law_next) (aCons (sVar 1) (aCons (sBin opAdd (sCall fLen (aCons (sPk 3) (aNil))) (sC (.int 1))) (aNil)))))) (sSeq (sSet 8 (cV (sBin opAdd (sBin opAdd (sSl (sPk 3) (oNone) (oSome (sPk 7))) (sBin opIx (sC (.str [102, 65, 45, 122, 32, 49])) (sCall (callF 2 f__law_next) (aCons (sVar 1) (aCons (sC (.int 6)) (aNil)))))) (sSl (sPk 3) (oSome (sPk 7)) (oNone))))) (sSeq (sIfS (sB (sBin opNe (sCall (callF 1 f__law_refusals) (aCons (sTup (aCons (sVar 8) (aCons (sTup (aCons (sC (.int 99)) (aNil))) (aCons (sTup (aCons (sTup (aCons (sC (.str [120])) (aNil))) (aNil))) (aNil))))) (aNil))) (sBin opMul (sLst (aCons (sTup (aCons (sC (.str [114, 111, 119])) (aCons (sVar 7) (aNil)))) (aNil))) (sC (.int 11))))) (sRet (sC (.bl false))) (sSkip)) (sSeq (sSet 7 (cV (sCall (callF 2 f__law_next) (aCons (sVar 1) (aCons (sBin opAdd (sCall fLen (aCons (sPk 4) (aNil))) (sC (.int 1))) (aNil)))))) (sSeq (sSet 9 (cV (sBin opAdd (sLst (aCons (sBin opSub (sNeg (sC (.int 1))) (sPk 6)) (aCons (sBin opAdd (sBin opSub (sCall fLen (aCons (sPk 3) (aNil))) (sC (.int 1))) (sPk 6)) (aNil)))) (sLc [10] (sIt (sSl (sSl (sPk 4) (oNone) (oSome (sPk 7))) (oSome (sNeg (sC (.int 1)))) (oNone))) (g_law1) (sYes) (f_law2))))) (sSeq (sSet 8 (cV (sBin opAdd (sBin opAdd (sSl (sPk 4) (oNone) (oSome (sPk 7))) (sTup (aCons (sBin opIx (sPk 9) (sCall (callF 2 f__law_next) (aCons (sVar 1) (aCons (sCall fLen (aCons (sPk 9) (aNil))) (aNil))))) (aNil)))) (sSl (sPk 4) (oSome (sPk 7)) (oNone))))) (sSeq (sIfS (sB (sBin opNe (sCall (callF 1 f__law_refusals) (aCons (sTup (aCons (sVar 3) (aCons (sVar 8) (aCons (sTup (aCons (sTup (aCons (sC (.str [120])) (aNil))) (aNil))) (aNil))))) (aNil))) (sBin opMul (sLst (aCons (sTup (aCons (sC (.str [98, 97, 114, 115])) (aCons (sVar 7) (aNil)))) (aNil))) (sC (.int 11))))) (sRet (sC (.bl false))) (sSkip)) (sSeq (sSet 7 (cV (sCall (callF 2 f__law_next) (aCons (sVar 1) (aCons (sBin opAdd (sCall fLen (aCons (sPk 5) (aNil))) (sC (.int 1))) (aNil)))))) (sSeq (sSet 9 (cV (sLst (aCons (sTup (aCons (sC (.str [102])) (aCons (sC (.str [97])) (aCons (sC (.int 1)) (aCons (sC (.int 1)) (aCons (sC (.str [98])) (aNil))))))) (aCons (sTup (aCons (sC (.str [97])) (aCons (sC (.str [102])) (aCons (sC (.int 1)) (aCons (sC (.int 1)) (aCons (sC (.str [98])) (aNil))))))) (aCons (sTup (aCons (sC (.str [97])) (aCons (sC (.str [98])) (aCons (sC (.int 1)) (aCons (sC (.int 1)) (aCons (sC (.str [102])) (aNil))))))) (aCons (sTup (aCons (sC (.str [97])) (aCons (sC (.str [98])) (aCons (sC (.int 1)) (aCons (sC (.int 1)) (aCons (sC (.str [97])) (aNil))))))) (aNil)))))))) (sSeq (sSet 9 (cV (sBin opAdd (sPk 9) (sLst (aCons (sTup (aCons (sC (.str [97])) (aCons (sC (.str [98])) (aCons (sBin opSub (sC (.int 0)) (sPk 6)) (aCons (sC (.int 1)) (aCons (sC (.str [99])) (aNil))))))) (aCons (sTup (aCons (sC (.str [97])) (aCons (sC (.str [98])) (aCons (sBin opAdd (sC (.int 3)) (sPk 6)) (aCons (sC (.int 1)) (aCons (sC (.str [99])) (aNil))))))) (aCons (sTup (aCons (sC (.str [97])) (aCons (sC (.str [98])) (aCons (sC (.int 1)) (aCons (sBin opSub (sC (.int 0)) (sPk 6)) (aCons (sC (.str [99])) (aNil))))))) (aNil)))))))) (sSeq (sSet 9 (cV (sBin opAdd (sPk 9) (sLst (aCons (sTup (aCons (sC (.str [97])) (aCons (sC (.str [98])) (aCons (sC (.int 1)) (aCons (sBin opAdd (sC (.int 5)) (sPk 6)) (aCons (sC (.str [99])) (aNil))))))) (aCons (sTup (aCons (sC (.str [97, 98])) (aCons (sC (.str [98])) (aCons (sC (.int 1)) (aCons (sC (.int 1)) (aCons (sC (.str [99])) (aNil))))))) (aCons (sTup (aCons (sC (.str [97])) (aCons (sC (.str [98])) (aCons (sC (.int 1)) (aCons (sC (.int 1)) (aCons (sC (.str [])) (aNil))))))) (aCons (sTup (aCons (sC (.str [])) (aCons (sC (.str [98])) (aCons (sC (.int 1)) (aCons (sC (.int 1)) (aCons (sC (.str [99])) (aNil))))))) (aNil))))))))) (sSeq (sSet 8 (cV (sBin opAdd (sBin opAdd (sSl (sPk 5) (oNone) (oSome (sPk 7))) (sTup (aCons (sBin opIx (sPk 9) (sCall (callF 2 f__law_next) (aCons (sVar 1) (aCons (sC (.int 11)) (aNil))))) (aNil)))) (sSl (sPk 5) (oSome (sPk 7)) (oNone))))) (sSeq (sIfS (sB (sBin opNe (sCall (callF 1 f__law_refusals) (aCons (sTup (aCons (sVar 3) (aCons (sVar 4) (aCons (sVar 8) (aNil))))) (aNil))) (sBin opMul (sLst (aCons (sTup (aCons (sC (.str [114, 117, 108, 101, 115])) (aCons (sVar 7) (aNil)))) (aNil))) (sC (.int 11))))) (sRet (sC (.bl false))) (sSkip)) (sSeq (sSet 11 (cV (sLst (aCons (sLam 0) (aCons (sLam 1) (aNil)))))) (sSeq (sIfS (sB (sBin opNe (sLc [12] (sIt (sVar 11)) (gN 12) sYes (sKind LT_law KD__law_kind (sVar 12))) (sBin opMul (sLst (aCons (sTup (aCons (sC (.str [114, 117, 108, 101, 115])) (aCons (sVar 7) (aNil)))) (aNil))) (sC (.int 2))))) (sRet (sC (.bl false))) (sSkip)) (sForget 2 (sForget 3 (sForget 4 (sForget 5 (sForget 6 (sForget 7 (sForget 8 (sForget 9 (sForget 11 (sSkip)))))))))))))))))))))))))
noncomputable def g_law4 [LamC] [Lam2C] : Gm := gN 2
noncomputable def b_law [LamC] [Lam2C] : SS := sSeq (sFor (sRg (aCons (sC (.int 6)) (aNil))) (g_law4) (b_law3)) (sSeq (sSet 13 (cV (sBin opMul (sTup (aCons (sTup (aCons (sC (.str [97])) (aCons (sC (.str [98])) (aCons (sC (.int 1)) (aCons (sC (.int 1)) (aCons (sC (.str [99])) (aNil))))))) (aNil))) (sC (.int 6))))) (sSeq (sSet 14 (cL (aCons (sCall (callF 1 f__law_refusals) (aCons (sTup (aCons (sBin opMul (sC (.str [97])) (sC (.int 13))) (aCons (sTup (aNil)) (aCons (sVar 13) (aNil))))) (aNil))) (aCons (sCall (callF 1 f__law_refusals) (aCons (sTup (aCons (sC (.str [])) (aCons (sTup (aCons (sC (.int 9)) (aNil))) (aCons (sVar 13) (aNil))))) (aNil))) (aNil))))) (sSeq (sApp 14 (sCall (callF 1 f__law_refusals) (aCons (sTup (aCons (sBin opMul (sC (.str [97])) (sC (.int 12))) (aCons (sTupRg (sC (.int 11))) (aCons (sVar 13) (aNil))))) (aNil)))) (sSeq (sIfS (sB (sBin opNe (sPk 14) (sLst (aCons (sBin opMul (sLst (aCons (sTup (aCons (sC (.str [114, 111, 119])) (aCons (sC (.int 12)) (aNil)))) (aNil))) (sC (.int 11))) (aCons (sBin opMul (sLst (aCons (sTup (aCons (sC (.str [114, 111, 119])) (aCons (sC (.int 0)) (aNil)))) (aNil))) (sC (.int 11))) (aCons (sBin opMul (sLst (aCons (sTup (aCons (sC (.str [114, 117, 108, 101, 115])) (aCons (sC (.int 5)) (aNil)))) (aNil))) (sC (.int 11))) (aNil))))))) (sRet (sC (.bl false))) (sSkip)) (sRet (sBin opEq (sCall (callF 2 f_beats) (aCons (sTup (aCons (sBin opMul (sC (.str [97, 98])) (sC (.int 6))) (aCons (sTupRg (sC (.int 11))) (aCons (sSl (sPk 13) (oNone) (oSome (sC (.int 5)))) (aNil))))) (aCons (sC (.int 2)) (aNil)))) (sBin opMul (sLst (aCons (sBin opMul (sC (.str [97, 98])) (sC (.int 6))) (aNil))) (sC (.int 2)))))))))
end Dl
namespace Dl
open PySem PySem.Spec PyProof.Rows L2 TL

/-! ### worlds -/
def K5 (k : Nat) : Prop := k ∈ [97, 98, 99, 100, 101]
structure Rul where
  k : Nat
  n : Nat
  many : Int
  beats : Int
  l : Nat
def encR (q : Rul) : D := .tup [.str [q.k], .str [q.n], .int q.many, .int q.beats, .str [q.l]]
structure RulOk (q : Rul) : Prop where
  k : K5 q.k
  n : K5 q.n
  l : K5 q.l
  ne : q.l ≠ q.k
  m1 : 1 ≤ q.many
  m2 : q.many ≤ 2
  b1 : 1 ≤ q.beats
  b2 : q.beats ≤ 4
structure Wld where
  row : List Nat
  bars : List Nat
  rules : List Rul
def encB (bars : List Nat) : List D := bars.map fun (b : Nat) => .int b
def encW (W : Wld) : D := .tup [.str W.row, .tup (encB W.bars), .tup (W.rules.map encR)]
structure WOk (W : Wld) : Prop where
  ne : W.row ≠ []
  len : W.row.length ≤ 12
  k : ∀ k ∈ W.row, K5 k
  bars : W.bars.Sublist (List.range (W.row.length - 1))
  rl : W.rules.length ≤ 5
  r : ∀ q ∈ W.rules, RulOk q
theorem lim12 {n : Nat} (h : n ≤ 1000) : n ≤ LIM := Nat.le_trans h (by decide)
theorem k5_lt {k : Nat} (h : K5 k) : k < 1114112 := by
  simp only [K5, List.mem_cons, List.not_mem_nil, or_false] at h
  omega
theorem is_kind_ok {k : Nat} (h : K5 k) (m : Sto) : f_is_kind [.str [k]] m = .ok (.bl true) m := by
  simp only [K5, List.mem_cons, List.not_mem_nil, or_false] at h
  rcases h with rfl | rfl | rfl | rfl | rfl <;> rfl
theorem enumL_at {l : List D} {k : Nat} {d : D} (h : (enumL 0 l)[k]? = some d) : ∃ x, l[k]? = some x ∧ d = .tup [.int k, x] := by
  rw [enumL_get] at h
  cases e : l[k]? with
  | none => rw [e] at h; cases h
  | some x =>
    rw [e] at h
    refine ⟨x, rfl, ?_⟩
    have h := (Option.some.inj h).symm
    simpa using h
theorem need_row_ok {W : Wld} (h : WOk W) (m : Sto) : f_need_row [.str W.row] m = .ok .non m := by
  have hz : W.row.length ≤ LIM := lim12 (by have := h.len; omega)
  show ofFl (b_need_row [some (.val (.str W.row)), none, none] m) = _
  unfold b_need_row
  simp only [ev_seq, ev_for]
  rw [ev_En (d := .str W.row) (m := m) rfl]
  simp only [itD_s, bindS_ok]
  rw [forL_same]
  · have hne : W.row ≠ [] := h.ne
    have hk : W.row.all (fun x => decide (x < 1114112)) = true := by
      rw [List.all_eq_true]
      intro x hx
      exact decide_eq_true (k5_lt (h.k x hx))
    simp [hk, hne]
  · intro k d hd
    obtain ⟨x, hx, rfl⟩ := enumL_at hd
    rw [List.getElem?_map] at hx
    cases e : W.row[k]? with
    | none => rw [e] at hx; cases hx
    | some c =>
      rw [e] at hx
      cases hx
      have hk : k < W.row.length := (List.getElem?_eq_some_iff.mp e).1
      have hc : K5 c := h.k c (List.mem_of_getElem? e)
      have hlen := h.len
      refine ⟨_, rfl, ?_⟩
      simp only [K5, List.mem_cons, List.not_mem_nil, or_false] at hc
      have h12 : ((k : Int) == 12) = false := by simp; omega
      simp [b_need_row1, h12, hc]
theorem atI_nat {α : Type} {l : List α} {k : Nat} {x : α} (h : l[k]? = some x) : atI l (k : Int) = some x := by
  have hk := (List.getElem?_eq_some_iff.mp h).1
  unfold atI ixN
  rw [if_pos (by omega), if_pos (by omega)]
  simpa using h
theorem encB_get {bars : List Nat} {k : Nat} {d : D} (h : (encB bars)[k]? = some d) : ∃ g, bars[k]? = some g ∧ d = .int g := by
  unfold encB at h
  rw [List.getElem?_map] at h
  cases e : bars[k]? with
  | none => rw [e] at h; cases h
  | some x => rw [e] at h; exact ⟨x, rfl, (Option.some.inj h).symm⟩
theorem encB_of {bars : List Nat} {k g : Nat} (h : bars[k]? = some g) : (encB bars)[k]? = some (.int g) := by
  unfold encB
  rw [List.getElem?_map, h]
  rfl
theorem bars_lt {W : Wld} (h : WOk W) {g : Nat} (hg : g ∈ W.bars) : g < W.row.length - 1 := List.mem_range.mp (h.bars.subset hg)
theorem bars_inc {W : Wld} (h : WOk W) {i : Nat} {a b : Nat} (ha : W.bars[i]? = some a) (hb : W.bars[i + 1]? = some b) : a < b := by
  have p : W.bars.Pairwise (· < ·) := List.Pairwise.sublist h.bars List.pairwise_lt_range
  obtain ⟨h1, rfl⟩ := List.getElem?_eq_some_iff.mp ha
  obtain ⟨h2, rfl⟩ := List.getElem?_eq_some_iff.mp hb
  exact List.pairwise_iff_getElem.mp p i (i + 1) h1 h2 (Nat.lt_succ_self i)
theorem need_bars_ok {W : Wld} (h : WOk W) (m : Sto) : f_need_bars [.str W.row, .tup (encB W.bars)] m = .ok .non m := by
  have hz : W.row.length ≤ LIM := lim12 (by have := h.len; omega)
  show ofFl (b_need_bars [some (.val (.str W.row)), some (.val (.tup (encB W.bars))), none, none] m) = _
  unfold b_need_bars
  simp only [ev_for]
  rw [ev_En (d := .tup (encB W.bars)) (m := m) rfl]
  simp only [itD_t, bindS_ok]
  rw [forL_same]
  · rfl
  · intro k d hd
    obtain ⟨x, hx, rfl⟩ := enumL_at hd
    obtain ⟨g, hg, rfl⟩ := encB_get hx
    have h1 := bars_lt h (List.mem_of_getElem? hg)
    refine ⟨_, rfl, ?_⟩
    have c1 : decide ((g : Int) < (W.row.length : Int) - 1) = true := decide_eq_true (by omega)
    have c0 : decide ((0 : Int) ≤ (g : Int)) = true := decide_eq_true (by omega)
    cases k with
    | zero => simp [b_need_bars1, hz, c1, c0]
    | succ k =>
      have hl : k < W.bars.length := by
        have := (List.getElem?_eq_some_iff.mp hg).1
        omega
      have h2 := bars_inc h (List.getElem?_eq_getElem hl) hg
      have h3 : atI (encB W.bars) (k : Int) = some (.int (W.bars[k] : Nat)) := atI_nat (encB_of (List.getElem?_eq_getElem hl))
      have c2 : ¬ g ≤ W.bars[k] := by omega
      have c3 : decide ((0 : Int) < ((k + 1 : Nat) : Int)) = true := decide_eq_true (by omega)
      simp [b_need_bars1, hz, c1, c0, c2, c3, h3]
theorem is_rule_ok {q : Rul} (h : RulOk q) (m : Sto) : f_is_rule [encR q] m = .ok (.bl true) m := by
  show ofFl (b_is_rule [some (.val (encR q))] m) = _
  unfold b_is_rule encR
  have e1 := h.m1; have e2 := h.m2; have e3 := h.b1; have e4 := h.b2; have e5 := h.ne
  have k1 := k5_lt h.k; have k2 := k5_lt h.l
  have a1 : atI [D.str [q.k], .str [q.n], .int q.many, .int q.beats, .str [q.l]] 1 = some (.str [q.n]) := rfl
  have a2 : atI [D.str [q.k], .str [q.n], .int q.many, .int q.beats, .str [q.l]] 2 = some (.int q.many) := rfl
  have a3 : atI [D.str [q.k], .str [q.n], .int q.many, .int q.beats, .str [q.l]] 3 = some (.int q.beats) := rfl
  have a4 : atI [D.str [q.k], .str [q.n], .int q.many, .int q.beats, .str [q.l]] 4 = some (.str [q.l]) := rfl
  simp [a1, a2, a3, a4, is_kind_ok h.k, is_kind_ok h.n, is_kind_ok h.l, e1, e2, e3, e4, e5, k1, k2]
theorem need_rules_ok {W : Wld} (h : WOk W) (m : Sto) : f_need_rules [.tup (W.rules.map encR)] m = .ok .non m := by
  show ofFl (b_need_rules [some (.val (.tup (W.rules.map encR))), none, none] m) = _
  unfold b_need_rules
  simp only [ev_for]
  rw [ev_En (d := .tup (W.rules.map encR)) (m := m) rfl]
  simp only [itD_t, bindS_ok]
  rw [forL_same]
  · rfl
  · intro k d hd
    obtain ⟨x, hx, rfl⟩ := enumL_at hd
    rw [List.getElem?_map] at hx
    cases e : W.rules[k]? with
    | none => rw [e] at hx; cases hx
    | some q =>
      rw [e] at hx
      cases hx
      have hk : k < W.rules.length := (List.getElem?_eq_some_iff.mp e).1
      have hq := h.r q (List.mem_of_getElem? e)
      have hlen := h.rl
      refine ⟨_, rfl, ?_⟩
      have h5 : ((k : Int) == 5) = false := by simp; omega
      simp [b_need_rules1, h5, is_rule_ok hq]
theorem need_world_ok {W : Wld} (h : WOk W) (m : Sto) : f_need_world [encW W] m = .ok .non m := by
  show ofFl (b_need_world [some (.val (encW W)), none, none, none] m) = _
  unfold b_need_world encW
  simp [need_row_ok h, need_bars_ok h, need_rules_ok h]
end Dl
namespace Dl
open PySem PySem.Spec PyProof.Rows L2 TL

/-! ### small things -/
theorem joinL_nil : ∀ ps : List (List Nat), joinL [] ps = ps.flatten
  | [] => rfl
  | [p] => by simp [joinL]
  | p :: q :: r => by
    show p ++ ([] ++ joinL [] (q :: r)) = _
    rw [joinL_nil (q :: r)]
    rfl
theorem joinD_ok {a : List Nat} {ps : List (List Nat)} {m : Sto} (h : (ps.map List.length).sum + ps.length * a.length ≤ 1000) : joinD a ps m = .ok (.str (joinL a ps)) m := if_pos (lim12 h)
@[simp] theorem join_l {a : List Nat} {l : List D} {m : Sto} : fJoin (.str a) [.lst l] m = (match strsD l with | some ps => joinD a ps m | none => .bad) := rfl
@[simp] theorem join_t {a : List Nat} {l : List D} {m : Sto} : fJoin (.str a) [.tup l] m = (match strsD l with | some ps => joinD a ps m | none => .bad) := rfl
theorem in_bars (bars : List Nat) (k : Nat) : inD (.int (k : Nat)) (.tup (encB bars)) = some (decide (k ∈ bars)) := by
  have h1 : (encB bars).all flatD = true := by
    rw [List.all_eq_true]
    intro x hx
    obtain ⟨g, _, rfl⟩ := List.mem_map.mp hx
    rfl
  have h2 : ((encB bars).any fun y => eqD y (.int (k : Nat))) = decide (k ∈ bars) := by
    induction bars with
    | nil => rfl
    | cons b r ih =>
      have ih := ih (by
        rw [List.all_eq_true] at h1 ⊢
        exact fun x hx => h1 x (List.mem_cons_of_mem _ hx))
      show (eqD (.int (b : Nat)) (.int (k : Nat)) || (encB r).any fun y => eqD y (.int (k : Nat))) = _
      rw [ih, eqD_int]
      by_cases e : k = b
      · subst e; simp
      · have e2 : ((b : Int) == (k : Int)) = false := by simp; omega
        simp [e2, e]
  show (if flatD (.int (k : Nat)) = true ∧ (encB bars).all flatD = true then some ((encB bars).any fun y => eqD y (.int (k : Nat))) else none) = _
  rw [if_pos ⟨rfl, h1⟩, h2]
theorem in_barsL (bars : List Nat) (k : Nat) : inD (.int (k : Nat)) (.lst (encB bars)) = some (decide (k ∈ bars)) := in_bars bars k
theorem seq_nx {a b : SS} {r r1 : Env} {m m1 : Sto} (h : a r m = .nx r1 m1) : sSeq a b r m = b r1 m1 := by
  rw [ev_seq, h]
/-- what stands at a place of a row's signs -/
theorem str_at {row : List Nat} {k : Nat} {d : D} (h : (row.map fun c => D.str [c])[k]? = some d) : ∃ c, row[k]? = some c ∧ d = .str [c] := by
  rw [List.getElem?_map] at h
  cases e : row[k]? with
  | none => rw [e] at h; cases h
  | some c => rw [e] at h; exact ⟨c, rfl, (Option.some.inj h).symm⟩
theorem rangeL_get {i : Int} {n k : Nat} {d : D} (h : (rangeL i n)[k]? = some d) : k < n ∧ d = .int (i + k) := by
  unfold rangeL at h
  rw [List.getElem?_map] at h
  cases e : (List.range n)[k]? with
  | none => rw [e] at h; cases h
  | some x =>
    rw [e] at h
    have h := (Option.some.inj h).symm
    have hk : k < n := by
      have := (List.getElem?_eq_some_iff.mp e).1
      simpa using this
    rw [List.getElem?_range hk] at e
    cases e
    exact ⟨hk, h⟩
theorem rangeL_length {i : Int} {n : Nat} : (rangeL i n).length = n := by simp [rangeL]
theorem ix_str {z : List Nat} {k c : Nat} (h : z[k]? = some c) (hz : z.length ≤ LIM) : ixD (.str z) (.int (k : Nat)) = some (.str [c]) := by
  show (if z.length ≤ LIM then (atI z (k : Nat)).map fun c => D.str [c] else none) = _
  rw [if_pos hz, atI_nat h]
  rfl
theorem cut_take {α : Type} {l : List α} {n : Nat} (hn : n ≤ l.length) : cutL l none (some (n : Int)) = l.take n := by
  have h1 : HT.sIx l.length 0 none = 0 := rfl
  have h2 : HT.sIx l.length l.length (some (n : Int)) = n := by
    have hneg : ¬ ((n : Int) < 0) := by omega
    simp only [HT.sIx, if_neg hneg]
    simp
    omega
  unfold cutL
  rw [h1, h2]
  simp
theorem cut_drop {α : Type} {l : List α} {n : Nat} (hn : n ≤ l.length) : cutL l (some (n : Int)) none = l.drop n := by
  have h1 : HT.sIx l.length l.length none = l.length := rfl
  have h2 : HT.sIx l.length 0 (some (n : Int)) = n := by
    have hneg : ¬ ((n : Int) < 0) := by omega
    simp only [HT.sIx, if_neg hneg]
    simp
    omega
  unfold cutL
  rw [h1, h2]
  rw [List.take_of_length_le (by simp)]
end Dl
namespace Dl
open PySem PySem.Spec PyProof.Rows L2 TL

/-! ### worlds drawn -/
/-- a rule's kinds are among the first -/
structure RIn (kn : Nat) (q : Rul) : Prop where
  k : 97 ≤ q.k ∧ q.k < 97 + kn
  n : 97 ≤ q.n ∧ q.n < 97 + kn
  l : 97 ≤ q.l ∧ q.l < 97 + max 2 kn
structure WIs (jars kinds many : Nat) (W : Wld) : Prop where
  ne : W.row ≠ []
  len : W.row.length ≤ jars
  k : ∀ k ∈ W.row, 97 ≤ k ∧ k < 97 + kinds
  bars : W.bars.Sublist (List.range (W.row.length - 1))
  rl : W.rules.length ≤ many
  r : ∀ q ∈ W.rules, RulOk q ∧ RIn kinds q
theorem k5_of {k n : Nat} (hn : n ≤ 5) (h : 97 ≤ k ∧ k < 97 + n) : K5 k := by
  unfold K5
  simp only [List.mem_cons, List.not_mem_nil, or_false]
  omega
theorem WIs.ok {jars kinds many : Nat} {W : Wld} (h : WIs jars kinds many W) (h1 : jars ≤ 12) (h2 : kinds ≤ 5) (h3 : many ≤ 5) : WOk W :=
  ⟨h.ne, Nat.le_trans h.len h1, fun k hk => k5_of h2 (h.k k hk), h.bars, Nat.le_trans h.rl h3, fun q hq => (h.r q hq).1⟩
theorem L5_at {v : Int} {n : Nat} (h0 : 0 ≤ v) (h1 : v < n) (hn : n ≤ 5) : ([97, 98, 99, 100, 101] : List Nat)[v.toNat]? = some (97 + v.toNat) := by
  have : v = 0 ∨ v = 1 ∨ v = 2 ∨ v = 3 ∨ v = 4 := by omega
  rcases this with rfl | rfl | rfl | rfl | rfl <;> rfl
theorem ix5 {v : Int} {n : Nat} (h0 : 0 ≤ v) (h1 : v < n) (hn : n ≤ 5) : ixD (.str [97, 98, 99, 100, 101]) (.int v) = some (.str [97 + v.toNat]) := by
  have e : v = ((v.toNat : Nat) : Int) := by omega
  have h := L5_at h0 h1 hn
  generalize v.toNat = k at e h ⊢
  subst e
  exact ix_str (by simpa using h) (by decide)
theorem strike_eval {L : List Nat} {i j l : Nat} {fa fb fd : SE} {g : SS} {r : Env} {m m1 m2 m3 : Sto} {k k2 : Int} {c c2 : Nat} {y : D} (h1 : fa r m = .ok (.int k) m1) (h2 : 0 ≤ k) (h3 : L[k.toNat]? = some c) (h4 : fb r m1 = .ok y m2)
    (h5 : fd ((r.set i (some (.val (.str [c])))).set j (some (.val y))) m2 = .ok (.int k2) m3) (h6 : 0 ≤ k2) (h7 : (L.filter (· != c))[k2.toNat]? = some c2) : sStrike L i j l fa fb fd g r m = g (((r.set i (some (.val (.str [c])))).set j (some (.val y))).set l (some (.val (.str [c2])))) m3 := by
  unfold sStrike
  rw [h1]
  simp only [bindS_ok]
  rw [if_pos h2, h3]
  simp only [h4, bindS_ok, h5]
  rw [if_pos h6]
  rw [h7]
theorem later_at {c kn : Nat} (hc : 97 ≤ c ∧ c < 97 + kn) (hk : kn ≤ 5) {v : Int} (h0 : 0 ≤ v) (h1 : v < max 1 ((kn : Int) - 1)) : ∃ c2, (([97, 98, 99, 100, 101] : List Nat).filter (· != c))[v.toNat]? = some c2 ∧ K5 c2 ∧ c2 ≠ c ∧ 97 ≤ c2 ∧ c2 < 97 + max 2 kn := by
  have hv : v = 0 ∨ v = 1 ∨ v = 2 ∨ v = 3 := by omega
  have hcc : c = 97 ∨ c = 98 ∨ c = 99 ∨ c = 100 ∨ c = 101 := by omega
  rcases hcc with rfl | rfl | rfl | rfl | rfl <;> rcases hv with rfl | rfl | rfl | rfl <;> exact ⟨_, rfl, by unfold K5; decide, by decide, by decide, by omega⟩
theorem joinD_ok2 {ps : List (List Nat)} {m : Sto} (h : (ps.map List.length).sum ≤ 1000) : joinD [] ps m = .ok (.str ps.flatten) m := by
  rw [joinD_ok (by simpa using h), joinL_nil]
theorem sum_ones (row : List Nat) : ((row.map fun c => [c]).map List.length).sum = row.length := by
  induction row with
  | nil => rfl
  | cons a r ih =>
    simp only [List.map_cons, List.sum_cons, List.length_cons, List.length_nil, ih]
    omega
theorem flat_ones (row : List Nat) : (row.map fun c => [c]).flatten = row := by
  induction row with
  | nil => rfl
  | cons a r ih =>
    simp only [List.map_cons, List.flatten_cons, ih]
    rfl
end Dl
namespace Dl
open PySem PySem.Spec PyProof.Rows L2 TL

/-! ### worlds drawn by the law -/
theorem row_comp {jars kinds many : Int} {kn : Nat} (hk0 : 1 ≤ kn) (hk : kn ≤ 5) (ek : kinds = kn) {c4 c6 : Option Cell} (l : List D) (m : Sto) (hm : Good ρ m) :
    ∃ (ks : List Nat) (m' : Sto), lcL g__law_world1 sYes f__law_world2 [some (.val (.obj 0)), some (.val (.int jars)), some (.val (.int kinds)), some (.val (.int many)), c4, none, c6, none] l m = .ok (ks.map fun c => D.str [c]) m' ∧ ks.length = l.length ∧ (∀ k ∈ ks, 97 ≤ k ∧ k < 97 + kn) ∧ Good ρ m' := by
  obtain ⟨ys, m', e, el, hp, hg⟩ := lcL_draw (g := g__law_world1) (t := sYes) (f := f__law_world2) (r0 := [some (.val (.obj 0)), some (.val (.int jars)), some (.val (.int kinds)), some (.val (.int many)), c4, none, c6, none]) (Good ρ) (fun _ y => ∃ k : Nat, y = .str [k] ∧ 97 ≤ k ∧ k < 97 + kn) l m hm fun d hd m hm => by
    obtain ⟨v, m', e, h0, h1, hg⟩ := draw hm (k := kinds) (by omega) (by omega)
    have hix := ix5 h0 (n := kn) (by omega) hk
    refine ⟨_, .str [97 + v.toNat], m', rfl, rfl, ?_, ⟨97 + v.toNat, rfl, by omega, by omega⟩, hg⟩
    simp [f__law_world2, f__law_next, e, hix]
  obtain ⟨ks, rfl, hks⟩ : ∃ ks : List Nat, ys = ks.map (fun c => D.str [c]) ∧ ∀ k ∈ ks, 97 ≤ k ∧ k < 97 + kn := by
    have : ∀ (l' ys' : List D), ys'.length = l'.length → (∀ (k : Nat) (d y : D), l'[k]? = some d → ys'[k]? = some y → ∃ k : Nat, y = .str [k] ∧ 97 ≤ k ∧ k < 97 + kn) → ∃ ks : List Nat, ys' = ks.map (fun c => D.str [c]) ∧ ∀ k ∈ ks, 97 ≤ k ∧ k < 97 + kn := by
      intro l'
      induction l' with
      | nil =>
        intro ys' hl _
        have : ys' = [] := List.eq_nil_of_length_eq_zero hl
        exact ⟨[], by simp [this], by simp⟩
      | cons d l' ih =>
        intro ys' hl hp
        cases ys' with
        | nil => simp at hl
        | cons y ys' =>
          obtain ⟨k, rfl, hk⟩ := hp 0 d y rfl rfl
          obtain ⟨ks, rfl, hks⟩ := ih ys' (by simpa using hl) fun k d y h1 h2 => hp (k + 1) d y (by simpa using h1) (by simpa using h2)
          refine ⟨k :: ks, rfl, fun x hx => ?_⟩
          rcases List.mem_cons.mp hx with rfl | hx
          · exact hk
          · exact hks x hx
    exact this l ys el hp
  exact ⟨ks, m', e, by simpa using el, hks, hg⟩
theorem bars_comp {c0 c1 c2 c3 c4 c6 : Option Cell} (h0 : c0 = some (.val (.obj 0))) (n : Nat) (m : Sto) (hm : Good ρ m) :
    ∃ (bs : List Nat) (m' : Sto), lcL g__law_world3 t__law_world4 f__law_world5 [c0, c1, c2, c3, c4, none, c6, none] (rangeL 0 n) m = .ok (encB bs) m' ∧ bs.Sublist (List.range n) ∧ Good ρ m' := by
  subst h0
  obtain ⟨ys, m', e, sl, hg⟩ := lcL_some (g := g__law_world3) (t := t__law_world4) (f := f__law_world5) (r0 := [some (.val (.obj 0)), c1, c2, c3, c4, none, c6, none]) (Good ρ) (rangeL 0 n) m hm fun d hd m hm => by
    obtain ⟨v, m', e, h0, h1, hg⟩ := draw hm (k := 5) (by decide) (by decide)
    refine ⟨_, (v == 0), m', rfl, ?_, hg, rfl⟩
    simp [t__law_world4, f__law_next, e]
  obtain ⟨bs, hb, rfl⟩ := List.sublist_map_iff.mp (show ys.Sublist ((List.range n).map fun k : Nat => D.int (0 + k)) from sl)
  refine ⟨bs, m', ?_, hb, hg⟩
  rw [e]
  simp [encB]
theorem rule_turn {kinds many : Int} {kn : Nat} (hk0 : 1 ≤ kn) (hk : kn ≤ 5) (ek : kinds = kn) {acc : List D} (hl : acc.length ≤ 100) {d : D} (m : Sto) (hm : Good ρ m) :
    ∃ (q : Rul) (m' : Sto), b__law_rules1 [some (.val (.obj 0)), some (.val (.int kinds)), some (.val (.int many)), some (.lst acc), some (.val d), none, none, none] m = .nx [some (.val (.obj 0)), some (.val (.int kinds)), some (.val (.int many)), some (.lst (acc ++ [encR q])), none, none, none, none] m' ∧ (RulOk q ∧ RIn kn q) ∧ Good ρ m' := by
  obtain ⟨v1, m1, e1, a1, b1, g1⟩ := draw hm (k := kinds) (by omega) (by omega)
  obtain ⟨v2, m2, e2, a2, b2, g2⟩ := draw g1 (k := kinds) (by omega) (by omega)
  obtain ⟨v3, m3, e3, a3, b3, g3⟩ := draw g2 (k := max 1 (kinds - 1)) (by omega) (by omega)
  obtain ⟨v4, m4, e4, a4, b4, g4⟩ := draw g3 (k := 3) (by decide) (by decide)
  obtain ⟨v5, m5, e5, a5, b5, g5⟩ := draw g4 (k := 4) (by decide) (by decide)
  obtain ⟨v6, m6, e6, a6, b6, g6⟩ := draw g5 (k := 2) (by decide) (by decide)
  have hc : K5 (97 + v1.toNat) := k5_of hk (by omega)
  have hn : K5 (97 + v2.toNat) := k5_of hk (by omega)
  obtain ⟨c2, hc2, k2, ne2, r1, r2⟩ := later_at (c := 97 + v1.toNat) (kn := kn) (by omega) hk a3 (by rw [← ek]; exact b3)
  have hlt : acc.length < LIM := Nat.lt_of_le_of_lt hl (by decide)
  have h5 : (5 : Nat) ≤ LIM := by decide
  have hd : opDiv (.int v4) (.int 2) m4 = .ok (.int (v4 / 2)) m4 := by
    rw [div_int]
    exact if_pos ⟨by decide, by decide⟩
  have hmul : opMul (.int v5) (.int v6) m6 = .ok (.int (v5 * v6)) m6 := by
    show (if (-(2 ^ 64) < v5 ∧ v5 < 2 ^ 64) ∨ (-(2 ^ 64) < v6 ∧ v6 < 2 ^ 64) then R.ok (D.int (v5 * v6)) m6 else R.bad) = _
    exact if_pos (.inr (by omega))
  refine ⟨⟨97 + v1.toNat, 97 + v2.toNat, 1 + v4 / 2, 1 + v5 * v6, c2⟩, m6, ?_, ⟨⟨hc, hn, k2, ne2, by show 1 ≤ 1 + v4 / 2; omega, by show 1 + v4 / 2 ≤ 2; omega, ?_, ?_⟩, ⟨by show 97 ≤ 97 + v1.toNat ∧ 97 + v1.toNat < 97 + kn; omega, by show 97 ≤ 97 + v2.toNat ∧ 97 + v2.toNat < 97 + kn; omega, ⟨r1, r2⟩⟩⟩, g6⟩
  · unfold b__law_rules1
    rw [strike_eval (k := v1) (c := 97 + v1.toNat) (m1 := m1) (y := .str [97 + v2.toNat]) (m2 := m2) (k2 := v3) (m3 := m3) (c2 := c2) (by simp [f__law_next, e1]) a1 (L5_at a1 (n := kn) (by omega) hk) (by
      have := ix5 a2 (n := kn) (by omega) hk
      simp [f__law_next, e2, this]) (by simp [f__law_next, e3]) a3 hc2]
    simp [f__law_next, e4, e5, e6, hd, hmul, h5, hlt, encR]
  · show 1 ≤ 1 + v5 * v6
    have : 0 ≤ v5 * v6 := Int.mul_nonneg a5 a6
    omega
  · show 1 + v5 * v6 ≤ 4
    have : v6 = 0 ∨ v6 = 1 := by omega
    rcases this with rfl | rfl <;> omega
theorem rules_loop {kinds many : Int} {kn : Nat} (hk0 : 1 ≤ kn) (hk : kn ≤ 5) (ek : kinds = kn) : ∀ (l : List D) (acc : List Rul) (m : Sto), Good ρ m → acc.length + l.length ≤ 100 → (∀ q ∈ acc, RulOk q ∧ RIn kn q) →
    ∃ (rs : List Rul) (m' : Sto), forL g__law_rules2 b__law_rules1 l [some (.val (.obj 0)), some (.val (.int kinds)), some (.val (.int many)), some (.lst (acc.map encR)), none, none, none, none] m = .nx [some (.val (.obj 0)), some (.val (.int kinds)), some (.val (.int many)), some (.lst (rs.map encR)), none, none, none, none] m' ∧ rs.length = acc.length + l.length ∧ (∀ q ∈ rs, RulOk q ∧ RIn kn q) ∧ Good ρ m'
  | [], acc, m, hm, _, hq => ⟨acc, m, rfl, rfl, hq, hm⟩
  | d :: l, acc, m, hm, hl, hq => by
    simp only [List.length_cons] at hl
    obtain ⟨q, m1, e, okq, g1⟩ := rule_turn (many := many) hk0 hk ek (acc := acc.map encR) (by simp; omega) (d := d) m hm
    obtain ⟨rs, m2, e2, l2, q2, g2⟩ := rules_loop hk0 hk ek l (acc ++ [q]) m1 g1 (by simp; omega) (fun x hx => (List.mem_append.mp hx).elim (hq x) fun z => by rw [List.mem_singleton.mp z]; exact okq)
    refine ⟨rs, m2, ?_, by rw [l2]; simp; omega, q2, g2⟩
    rw [forL_step (r' := [some (.val (.obj 0)), some (.val (.int kinds)), some (.val (.int many)), some (.lst (acc.map encR)), some (.val d), none, none, none]) rfl e]
    simpa using e2
theorem rules_ok {kinds many : Int} {kn mn : Nat} (hk0 : 1 ≤ kn) (hk : kn ≤ 5) (ek : kinds = kn) (hmn : mn ≤ 50) (em : many = mn) (m : Sto) (hm : Good ρ m) :
    ∃ (rs : List Rul) (m' : Sto), f__law_rules [.obj 0, .int kinds, .int many] m = .ok (.tup (rs.map encR)) m' ∧ rs.length ≤ mn ∧ (∀ q ∈ rs, RulOk q ∧ RIn kn q) ∧ Good ρ m' := by
  obtain ⟨v, m1, e, a, b, g⟩ := draw hm (k := many + 1) (by omega) (by omega)
  obtain ⟨rs, m2, e2, l2, q2, g2⟩ := rules_loop (many := many) hk0 hk ek (rangeL 0 v.toNat) [] m1 g (by simp [rangeL_length]; omega) (by simp)
  refine ⟨rs, m2, ?_, by rw [l2]; simp [rangeL_length]; omega, q2, g2⟩
  show ofFl (b__law_rules [some (.val (.obj 0)), some (.val (.int kinds)), some (.val (.int many)), none, none, none, none, none] m) = _
  unfold b__law_rules
  have h0 : (0 : Nat) ≤ LIM := by decide
  rw [seq_nx (r1 := [some (.val (.obj 0)), some (.val (.int kinds)), some (.val (.int many)), some (.lst []), none, none, none, none]) (m1 := m) (by simp [h0])]
  have hin : inR v = true := decide_eq_true (by omega)
  rw [seq_nx (r1 := [some (.val (.obj 0)), some (.val (.int kinds)), some (.val (.int many)), some (.lst (rs.map encR)), none, none, none, none]) (m1 := m2) (by
    rw [ev_for, ev_Rg (i := v) (m' := m1) (by simp [f__law_next, e]), if_pos hin, bindS_ok]
    exact e2)]
  simp
theorem world_ok {jars kinds many : Int} {jn kn mn : Nat} (hj0 : 1 ≤ jn) (hj : jn ≤ 500) (ej : jars = jn) (hk0 : 1 ≤ kn) (hk : kn ≤ 5) (ek : kinds = kn) (hmn : mn ≤ 50) (em : many = mn) (m : Sto) (hm : Good ρ m) :
    ∃ (W : Wld) (m' : Sto), f__law_world [.obj 0, .int jars, .int kinds, .int many] m = .ok (encW W) m' ∧ WIs jn kn mn W ∧ Good ρ m' := by
  obtain ⟨v, m1, e1, a1, b1, g1⟩ := draw hm (k := jars) (by omega) (by omega)
  obtain ⟨row, m2, e2, l2, k2, g2⟩ := row_comp (jars := jars) (many := many) hk0 hk ek (c4 := none) (c6 := none) (rangeL 0 (1 + v).toNat) m1 g1
  rw [rangeL_length] at l2
  obtain ⟨bs, m3, e3, s3, g3⟩ := bars_comp (c0 := some (.val (.obj 0))) (c1 := some (.val (.int jars))) (c2 := some (.val (.int kinds))) (c3 := some (.val (.int many))) (c4 := some (.val (.str row))) (c6 := none) rfl (row.length - 1) m2 g2
  obtain ⟨rs, m4, e4, l4, q4, g4⟩ := rules_ok hk0 hk ek hmn em m3 g3
  refine ⟨⟨row, bs, rs⟩, m4, ?_, ⟨?_, ?_, k2, s3, l4, q4⟩, g4⟩
  · show ofFl (b__law_world [some (.val (.obj 0)), some (.val (.int jars)), some (.val (.int kinds)), some (.val (.int many)), none, none, none, none] m) = _
    unfold b__law_world
    have hin : inR (1 + v) = true := decide_eq_true (by omega)
    have hz : row.length ≤ LIM := lim12 (by omega)
    have hz1 : (1 + v).toNat ≤ LIM := lim12 (by omega)
    have hz2 : row.length - 1 ≤ LIM := lim12 (by omega)
    have hin2 : inR ((row.length : Int) - 1) = true := decide_eq_true (by omega)
    have e5 : ((row.length : Int) - 1).toNat = row.length - 1 := by omega
    have hmap : row.map (fun c => D.str [c]) = (row.map fun c => [c]).map D.str := by simp
    have hsum : ((row.map fun c => [c]).map List.length).sum ≤ 1000 := by
      have := sum_ones row
      omega
    have hfl := flat_ones row
    rw [seq_nx (r1 := [some (.val (.obj 0)), some (.val (.int jars)), some (.val (.int kinds)), some (.val (.int many)), some (.val (.str row)), none, none, none]) (m1 := m2) (by
      simp only [ev_set, ev_cV, ev_meth, ev_c, bindR_ok, kD_str, if_true, ev_cons, ev_Lc]
      rw [ev_Rg (i := 1 + v) (m' := m1) (by simp [f__law_next, e1]), if_pos hin]
      simp only [bindR_ok, rangeL_length]
      rw [if_pos ⟨hz1, by simp⟩]
      simp only [wipeE_cons, wipeE_nil, List.set_cons_succ, List.set_cons_zero]
      rw [e2, hmap]
      simp only [bindR_ok, ev_nil, join_l, strsD_map, joinD_ok2 hsum, hfl, bindS_ok, List.set_cons_succ, List.set_cons_zero])]
    rw [seq_nx (r1 := [some (.val (.obj 0)), some (.val (.int jars)), some (.val (.int kinds)), some (.val (.int many)), some (.val (.str row)), none, some (.val (.tup (encB bs))), none]) (m1 := m3) (by
      simp only [ev_set, ev_cV, ev_call, ev_cons, ev_nil, ev_Lc]
      rw [ev_Rg (i := (row.length : Int) - 1) (m' := m2) (by simp [hz]), if_pos hin2]
      simp only [bindR_ok, rangeL_length, e5]
      rw [if_pos ⟨hz2, by simp⟩]
      simp only [wipeE_cons, wipeE_nil, List.set_cons_succ, List.set_cons_zero]
      rw [e3]
      simp)]
    have h3 : (3 : Nat) ≤ LIM := by decide
    simp [e4, h3, encW]
  · intro e
    have l2 : row.length = (1 + v).toNat := l2
    have e : row = [] := e
    rw [e] at l2
    simp at l2
    omega
  · show row.length ≤ jn
    omega
end Dl
namespace Dl
open PySem PySem.Spec PyProof.Rows L2 TL

/-! ### each of some lambdas, told -/
theorem kinds_lc [C : LamC] {LT : Nat → Option LamT} {KD : Nat → D → Option D} {i : Nat} {r0 : Env} {m : Sto} {t : D} (ks : List Nat) (hi : i < r0.length) (h : ∀ k ∈ ks, toldR LT KD (r0.set i (some (.val (.fn k (C.L k))))) (.fn k (C.L k)) m = .ok t m) :
    lcL (gN i) sYes (sKind LT KD (sVar i)) r0 (ks.map fun k => .fn k (C.L k)) m = .ok (ks.map fun _ => t) m := by
  have e := lcL_map (g := gN i) (t := sYes) (f := sKind LT KD (sVar i)) (r0 := r0) (m := m) (fun _ => t) (ks.map fun k => .fn k (C.L k)) fun d hd => by
    obtain ⟨k, hk, rfl⟩ := List.mem_map.mp hd
    refine ⟨_, rfl, rfl, ?_⟩
    rw [ev_kind, ev_var, List.getElem?_set_self hi]
    exact h k hk
  rw [e, List.map_map]
  rfl
end Dl
namespace Dl
open PySem PySem.Spec PyProof.Rows L2 TL
/-! ### worlds that are refused -/
@[simp] theorem ev_raiseF {c : Nat} {f : SE} {r : Env} {m : Sto} : sRaiseF c f r m = bindS r (f r m) fun d m => (match d with
  | .int i => .exc c (.int i) r m
  | _ => .bad) := rfl
@[simp] theorem ofFl_exc {c : Nat} {v : D} {r : Env} {m : Sto} : ofFl (.exc c v r m) = .exc c v m := rfl
theorem forL_stop {g : Gm} {b : SS} {c : Nat} {v : D} {r : Env} {m m' : Sto} : ∀ (l1 : List D) (d : D) (l2 : List D), (∀ (k : Nat) (x : D), l1[k]? = some x → ∃ r', g x r = some r' ∧ b r' m = .nx r m) → (∃ r' r'', g d r = some r' ∧ b r' m = .exc c v r'' m') → ∃ r'', forL g b (l1 ++ d :: l2) r m = .exc c v r'' m'
  | [], d, l2, _, ⟨r', r'', h1, h2⟩ => ⟨r'', by
    rw [List.nil_append]
    unfold forL
    rw [h1]
    dsimp only
    rw [h2]⟩
  | x :: l1, d, l2, h, hd => by
    obtain ⟨r', h1, h2⟩ := h 0 x rfl
    obtain ⟨r'', e⟩ := forL_stop l1 d l2 (fun k y hy => h (k + 1) y (by simpa using hy)) hd
    exact ⟨r'', by rw [List.cons_append, forL_step h1 h2, e]⟩
theorem list_cut {α : Type} {l : List α} {k : Nat} {x : α} (h : l[k]? = some x) : l = l.take k ++ x :: l.drop (k + 1) := by
  have hk := (List.getElem?_eq_some_iff.mp h).1
  have e := (List.getElem?_eq_some_iff.mp h).2
  rw [← e, List.getElem_cons_drop, List.take_append_drop]
/-- a loop that stops at its k-th item -/
theorem forL_at {g : Gm} {b : SS} {c : Nat} {v : D} {r : Env} {m m' : Sto} {l : List D} {k : Nat} {d : D} (hd : l[k]? = some d) (h : ∀ (j : Nat) (x : D), j < k → l[j]? = some x → ∃ r', g x r = some r' ∧ b r' m = .nx r m) (hx : ∃ r' r'', g d r = some r' ∧ b r' m = .exc c v r'' m') : ∃ r'', forL g b l r m = .exc c v r'' m' := by
  rw [list_cut hd]
  refine forL_stop _ _ _ (fun j x hj => ?_) hx
  rw [List.getElem?_take] at hj
  by_cases hlt : j < k
  · rw [if_pos hlt] at hj
    exact h j x hlt hj
  · rw [if_neg hlt] at hj
    cases hj
theorem enumL_of {l : List D} {k : Nat} {x : D} (h : l[k]? = some x) : (enumL 0 l)[k]? = some (.tup [.int k, x]) := by
  rw [enumL_get, h]
  simp
def SmallCp (row : List Nat) : Prop := row.all (fun x => decide (x < 1114112)) = true
/-- the first sign that can't stand there -/
theorem need_row_bad {row : List Nat} {k c : Nat} (hl : row.length ≤ 1000) (hs : SmallCp row) (hk : row[k]? = some c) (h12 : k ≤ 12) (good : ∀ (j c' : Nat), j < k → row[j]? = some c' → K5 c') (bad : k = 12 ∨ ¬ K5 c) (m : Sto) : f_need_row [.str row] m = .exc 0 (.int k) m := by
  have hz : row.length ≤ LIM := lim12 hl
  show ofFl (b_need_row [some (.val (.str row)), none, none] m) = _
  unfold b_need_row
  simp only [ev_seq, ev_for]
  rw [ev_En (d := .str row) (m := m) rfl]
  simp only [itD_s, bindS_ok]
  have hd : (enumL 0 (row.map fun c => D.str [c]))[k]? = some (.tup [.int k, .str [c]]) := enumL_of (by rw [List.getElem?_map, hk]; rfl)
  obtain ⟨r'', e⟩ := forL_at (g := g_need_row2) (b := b_need_row1) (r := [some (.val (.str row)), none, none]) (m := m) (c := 0) (v := .int k) (m' := m) hd (fun j d hj hd => by
    obtain ⟨x, hx, rfl⟩ := enumL_at hd
    rw [List.getElem?_map] at hx
    cases e : row[j]? with
    | none => rw [e] at hx; cases hx
    | some c' =>
      rw [e] at hx
      cases hx
      have hc : K5 c' := good j c' hj e
      refine ⟨_, rfl, ?_⟩
      simp only [K5, List.mem_cons, List.not_mem_nil, or_false] at hc
      have h12 : ((j : Int) == 12) = false := by simp; omega
      simp [b_need_row1, h12, hc]) (by
    refine ⟨_, [some (.val (.str row)), some (.val (.int k)), some (.val (.str [c]))], rfl, ?_⟩
    by_cases e12 : k = 12
    · subst e12
      simp [b_need_row1]
    · have hc : ¬ K5 c := bad.resolve_left e12
      simp only [K5, List.mem_cons, List.not_mem_nil, or_false, not_or] at hc
      have h12 : ((k : Int) == 12) = false := by simp; omega
      simp [b_need_row1, h12, hc])
  unfold SmallCp at hs
  simp [hs, e]
theorem need_row_none (m : Sto) : f_need_row [.str []] m = .exc 0 (.int 0) m := rfl
def intL (l : List Int) : List D := l.map D.int
theorem intL_get {l : List Int} {k : Nat} {d : D} (h : (intL l)[k]? = some d) : ∃ g, l[k]? = some g ∧ d = .int g := by
  unfold intL at h
  rw [List.getElem?_map] at h
  cases e : l[k]? with
  | none => rw [e] at h; cases h
  | some x => rw [e] at h; exact ⟨x, rfl, (Option.some.inj h).symm⟩
theorem intL_of {l : List Int} {k : Nat} {g : Int} (h : l[k]? = some g) : (intL l)[k]? = some (.int g) := by
  unfold intL
  rw [List.getElem?_map, h]
  rfl
/-- a gap that may stand at k -/
def GapOk (n : Nat) (l : List Int) (k : Nat) (g : Int) : Prop := 0 ≤ g ∧ g < (n : Int) - 1 ∧ ∀ j a, k = j + 1 → l[j]? = some a → a < g
theorem need_bars_bad {row : List Nat} {l : List Int} {k : Nat} {g : Int} (hz : row.length ≤ 1000) (hk : l[k]? = some g) (good : ∀ (j : Nat) (a : Int), j < k → l[j]? = some a → GapOk row.length l j a) (bad : ¬ GapOk row.length l k g) (m : Sto) : f_need_bars [.str row, .tup (intL l)] m = .exc 1 (.int k) m := by
  have hz : row.length ≤ LIM := lim12 hz
  show ofFl (b_need_bars [some (.val (.str row)), some (.val (.tup (intL l))), none, none] m) = _
  unfold b_need_bars
  simp only [ev_for]
  rw [ev_En (d := .tup (intL l)) (m := m) rfl]
  simp only [itD_t, bindS_ok]
  obtain ⟨r'', e⟩ := forL_at (g := g_need_bars2) (b := b_need_bars1) (r := [some (.val (.str row)), some (.val (.tup (intL l))), none, none]) (m := m) (c := 1) (v := .int k) (m' := m) (enumL_of (intL_of hk)) (fun j d hj hd => by
    obtain ⟨x, hx, rfl⟩ := enumL_at hd
    obtain ⟨a, ha, rfl⟩ := intL_get hx
    obtain ⟨h0, h1, h2⟩ := good j a hj ha
    refine ⟨_, rfl, ?_⟩
    cases j with
    | zero => simp [b_need_bars1, hz, h0, h1]
    | succ j =>
      have hl : j < l.length := by
        have := (List.getElem?_eq_some_iff.mp ha).1
        omega
      have h3 := h2 j _ rfl (List.getElem?_eq_getElem hl)
      have h4 : atI (intL l) (j : Int) = some (.int l[j]) := atI_nat (intL_of (List.getElem?_eq_getElem hl))
      have c2 : ¬ a ≤ l[j] := by omega
      have c3 : decide ((0 : Int) < ((j + 1 : Nat) : Int)) = true := decide_eq_true (by omega)
      simp [b_need_bars1, hz, h0, h1, c2, c3, h4]) (by
    refine ⟨_, [some (.val (.str row)), some (.val (.tup (intL l))), some (.val (.int k)), some (.val (.int g))], rfl, ?_⟩
    by_cases c0 : 0 ≤ g
    · by_cases c1 : g < (row.length : Int) - 1
      · cases k with
        | zero => exact absurd ⟨c0, c1, fun j a e => by omega⟩ bad
        | succ j =>
          have hl : j < l.length := by
            have := (List.getElem?_eq_some_iff.mp hk).1
            omega
          have h4 : atI (intL l) (j : Int) = some (.int l[j]) := atI_nat (intL_of (List.getElem?_eq_getElem hl))
          have c2 : g ≤ l[j] := by
            by_cases c2 : g ≤ l[j]
            · exact c2
            · exact absurd ⟨c0, c1, fun i a e1 e2 => by
                have e3 : i = j := by omega
                subst e3
                rw [List.getElem?_eq_getElem hl] at e2
                cases e2
                omega⟩ bad
          have c3 : decide ((0 : Int) < ((j + 1 : Nat) : Int)) = true := decide_eq_true (by omega)
          simp [b_need_bars1, hz, c0, c1, c2, c3, h4]
      · simp [b_need_bars1, hz, c0, c1]
    · simp [b_need_bars1, hz, c0])
  simp [e]
theorem need_bars_int {W : Wld} (h : WOk W) (m : Sto) : f_need_bars [.str W.row, .tup (encB W.bars)] m = .ok .non m := need_bars_ok h m
/-- the first rule that can't be one -/
theorem need_rules_bad {l : List D} {k : Nat} {d : D} (hk : l[k]? = some d) (h5 : k ≤ 5) (good : ∀ (j : Nat) (x : D), j < k → l[j]? = some x → ∀ m, f_is_rule [x] m = .ok (.bl true) m) (bad : k = 5 ∨ ∀ m, f_is_rule [d] m = .ok (.bl false) m) (m : Sto) : f_need_rules [.tup l] m = .exc 2 (.int k) m := by
  show ofFl (b_need_rules [some (.val (.tup l)), none, none] m) = _
  unfold b_need_rules
  simp only [ev_for]
  rw [ev_En (d := .tup l) (m := m) rfl]
  simp only [itD_t, bindS_ok]
  obtain ⟨r'', e⟩ := forL_at (g := g_need_rules2) (b := b_need_rules1) (r := [some (.val (.tup l)), none, none]) (m := m) (c := 2) (v := .int k) (m' := m) (enumL_of hk) (fun j x hj hd => by
    obtain ⟨y, hy, rfl⟩ := enumL_at hd
    have e1 := good j y hj hy m
    refine ⟨_, rfl, ?_⟩
    have h5 : ((j : Int) == 5) = false := by simp; omega
    simp [b_need_rules1, h5, e1]) (by
    refine ⟨_, [some (.val (.tup l)), some (.val (.int k)), some (.val d)], rfl, ?_⟩
    by_cases e5 : k = 5
    · subst e5
      simp [b_need_rules1]
    · have e1 := bad.resolve_left e5 m
      have h5 : ((k : Int) == 5) = false := by simp; omega
      simp [b_need_rules1, h5, e1])
  simp [e]
/-- a world that is refused -/
def Refused (w : D) (c : Nat) (k : Int) : Prop := ∀ m : Sto, f_need_world [w] m = .exc c (.int k) m
theorem refused_row {row : List Nat} {b r : D} {k : Int} (h : ∀ m, f_need_row [.str row] m = .exc 0 (.int k) m) : Refused (.tup [.str row, b, r]) 0 k := fun m => by
  show ofFl (b_need_world [some (.val (.tup [.str row, b, r])), none, none, none] m) = _
  unfold b_need_world
  simp [h]
theorem refused_bars {row : List Nat} {b r : D} {k : Int} (h1 : ∀ m, f_need_row [.str row] m = .ok .non m) (h : ∀ m, f_need_bars [.str row, b] m = .exc 1 (.int k) m) : Refused (.tup [.str row, b, r]) 1 k := fun m => by
  show ofFl (b_need_world [some (.val (.tup [.str row, b, r])), none, none, none] m) = _
  unfold b_need_world
  simp [h1, h]
theorem refused_rules {row : List Nat} {b r : D} {k : Int} (h1 : ∀ m, f_need_row [.str row] m = .ok .non m) (h2 : ∀ m, f_need_bars [.str row, b] m = .ok .non m) (h : ∀ m, f_need_rules [r] m = .exc 2 (.int k) m) : Refused (.tup [.str row, b, r]) 2 k := fun m => by
  show ofFl (b_need_world [some (.val (.tup [.str row, b, r])), none, none, none] m) = _
  unfold b_need_world
  simp [h1, h2, h]
end Dl
namespace Dl
open PySem PySem.Spec PyProof.Rows L2 TL
theorem seq_exc {f g : SS} {r r' : Env} {m m' : Sto} {c : Nat} {v : D} (h : f r m = .exc c v r' m') : sSeq f g r m = .exc c v r' m' := by
  unfold sSeq
  rw [h]
section
variable {w : D} {c : Nat} {k : Int}
theorem nw_exc (h : Refused w c k) (r : Env) (hr : r[0]? = some (some (.val w))) (m : Sto) : sExpr (sCall (callF 1 f_need_world) (aCons (sVar 0) aNil)) r m = .exc c (.int k) r m := by
  have e1 : sVar 0 r m = .ok w m := by
    rw [ev_var, hr]
  have e2 : sCall (callF 1 f_need_world) (aCons (sVar 0) aNil) r m = .exc c (.int k) m := by
    rw [ev_call, ev_cons, e1, bindR_ok, ev_nil, bindR_ok, bindR_ok]
    exact h m
  show bindS r (sCall (callF 1 f_need_world) (aCons (sVar 0) aNil) r m) _ = _
  rw [e2]
  rfl
theorem x_beats (h : Refused w c k) (d : D) (m : Sto) : f_beats [w, d] m = .exc c (.int k) m := by
  show ofFl (b_beats [some (.val w), some (.val d), none, none, none, none] m) = _
  unfold b_beats
  rw [seq_exc (nw_exc h _ rfl m)]
  rfl
theorem x_after (h : Refused w c k) (d : D) (m : Sto) : f_after [w, d] m = .exc c (.int k) m := by
  show ofFl (b_after [some (.val w), some (.val d), none, none] m) = _
  unfold b_after
  rw [seq_exc (nw_exc h _ rfl m)]
  rfl
theorem x_period (h : Refused w c k) (m : Sto) : f_period [w] m = .exc c (.int k) m := by
  show ofFl (b_period [some (.val w), none, none] m) = _
  unfold b_period
  rw [seq_exc (nw_exc h _ rfl m)]
  rfl
theorem x_turns (h : Refused w c k) (m : Sto) : f_turns [w] m = .exc c (.int k) m := by
  show ofFl (b_turns [some (.val w), none, none, none, none, none, none, none, none] m) = _
  unfold b_turns
  rw [seq_exc (nw_exc h _ rfl m)]
  rfl
theorem x_often (h : Refused w c k) (d : D) (m : Sto) : f_often [w, d] m = .exc c (.int k) m := by
  show ofFl (b_often (startE n_often [w, d]) m) = _
  unfold b_often
  rw [seq_exc (nw_exc h _ rfl m)]
  rfl
theorem x_breaks (h : Refused w c k) (d : D) (m : Sto) : f_breaks [w, d] m = .exc c (.int k) m := by
  show ofFl (b_breaks (startE n_breaks [w, d]) m) = _
  unfold b_breaks
  rw [seq_exc (nw_exc h _ rfl m)]
  rfl
theorem x_fbars (h : Refused w c k) (d : D) (m : Sto) : f_fewest_bars [w, d] m = .exc c (.int k) m := by
  show ofFl (b_fewest_bars (startE n_fewest_bars [w, d]) m) = _
  unfold b_fewest_bars
  rw [seq_exc (nw_exc h _ rfl m)]
  rfl
theorem x_fjars (h : Refused w c k) (d e : D) (m : Sto) : f_fewest_jars [w, d, e] m = .exc c (.int k) m := by
  show ofFl (b_fewest_jars (startE n_fewest_jars [w, d, e]) m) = _
  unfold b_fewest_jars
  rw [seq_exc (nw_exc h _ rfl m)]
  rfl
theorem x_how (h : Refused w c k) (m : Sto) : f_how_many [w] m = .exc c (.int k) m := by
  show ofFl (b_how_many (startE n_how_many [w]) m) = _
  unfold b_how_many
  rw [seq_exc (nw_exc h _ rfl m)]
  rfl
theorem x_sources (h : Refused w c k) (m : Sto) : f_sources [w] m = .exc c (.int k) m := by
  show ofFl (b_sources (startE n_sources [w]) m) = _
  unfold b_sources
  have e : sIfS (sB (sBin opGt (sCall (callF 1 f_how_many) (aCons (sVar 0) aNil)) (sC (.int 2000)))) (sRaise 5) sSkip (startE n_sources [w]) m = .exc c (.int k) (startE n_sources [w]) m := by
    have e0 : sCall (callF 1 f_how_many) (aCons (sVar 0) aNil) (startE n_sources [w]) m = .exc c (.int k) m := by
      rw [ev_call, ev_cons, show sVar 0 (startE n_sources [w]) m = .ok w m from rfl, bindR_ok, ev_nil, bindR_ok, bindR_ok]
      exact x_how h m
    have e1 : sB (sBin opGt (sCall (callF 1 f_how_many) (aCons (sVar 0) aNil)) (sC (.int 2000))) (startE n_sources [w]) m = .exc c (.int k) m := by
      show bindR (bindR (sCall (callF 1 f_how_many) (aCons (sVar 0) aNil) (startE n_sources [w]) m) _) _ = _
      rw [e0]
      rfl
    show bindS (startE n_sources [w]) (sB (sBin opGt (sCall (callF 1 f_how_many) (aCons (sVar 0) aNil)) (sC (.int 2000))) (startE n_sources [w]) m) _ = _
    rw [e1]
    rfl
  rw [seq_exc e]
  rfl
theorem x_written (h : Refused w c k) (m : Sto) : f_written [w] m = .exc c (.int k) m := by
  show ofFl (b_written (startE n_written [w]) m) = _
  unfold b_written
  rw [seq_exc (nw_exc h _ rfl m)]
  rfl
end
/-- what all eleven tell of a refused world -/
theorem told_all [C : LamC] {w t : D} {c : Nat} {k : Int} (h : Refused w c k) (hk : KD__law_kind c (.int k) = some t) {m : Sto} {c1 : Option Cell} :
    lcL (gN 2) sYes (sKind LT__law_refusals KD__law_kind (sVar 2)) [some (.val w), c1, none] ((List.range 11).map fun n => .fn n (C.L n)) m = .ok ((List.range 11).map fun _ => t) m :=
  kinds_lc (i := 2) (List.range 11) (by simp) fun n hn => by
    have hn : n ∈ [0, 1, 2, 3, 4, 5, 6, 7, 8, 9, 10] := hn
    have hl1 : (1 : Nat) ≤ LIM := by decide
    simp only [List.mem_cons, List.not_mem_nil, or_false] at hn
    rcases hn with rfl | rfl | rfl | rfl | rfl | rfl | rfl | rfl | rfl | rfl | rfl
    · exact told_exc (q := lt__law_refusals_0) (ds := [w]) (c := c) (v := .int k) rfl rfl (by simp [lt__law_refusals_0, lamE, startE, x_beats h]) hk
    · exact told_exc (q := lt__law_refusals_1) (ds := [w]) (c := c) (v := .int k) rfl rfl (by simp [lt__law_refusals_1, lamE, startE, x_after h]) hk
    · exact told_exc (q := lt__law_refusals_2) (ds := [w]) (c := c) (v := .int k) rfl rfl (by simp [lt__law_refusals_2, lamE, startE, x_period h]) hk
    · exact told_exc (q := lt__law_refusals_3) (ds := [w]) (c := c) (v := .int k) rfl rfl (by simp [lt__law_refusals_3, lamE, startE, x_turns h]) hk
    · exact told_exc (q := lt__law_refusals_4) (ds := [w]) (c := c) (v := .int k) rfl rfl (by simp [lt__law_refusals_4, lamE, startE, x_often h]) hk
    · exact told_exc (q := lt__law_refusals_5) (ds := [w]) (c := c) (v := .int k) rfl rfl (by simp [lt__law_refusals_5, lamE, startE, x_breaks h, hl1]) hk
    · exact told_exc (q := lt__law_refusals_6) (ds := [w]) (c := c) (v := .int k) rfl rfl (by simp [lt__law_refusals_6, lamE, startE, x_fbars h, hl1]) hk
    · exact told_exc (q := lt__law_refusals_7) (ds := [w]) (c := c) (v := .int k) rfl rfl (by simp [lt__law_refusals_7, lamE, startE, x_fjars h, hl1]) hk
    · exact told_exc (q := lt__law_refusals_8) (ds := [w]) (c := c) (v := .int k) rfl rfl (by simp [lt__law_refusals_8, lamE, startE, x_how h]) hk
    · exact told_exc (q := lt__law_refusals_9) (ds := [w]) (c := c) (v := .int k) rfl rfl (by simp [lt__law_refusals_9, lamE, startE, x_sources h]) hk
    · exact told_exc (q := lt__law_refusals_10) (ds := [w]) (c := c) (v := .int k) rfl rfl (by simp [lt__law_refusals_10, lamE, startE, x_written h]) hk
@[simp] theorem ev_cat {f g : SE} {r : Env} {m : Sto} : cCat f g r m = bindR (f r m) fun d m => bindR (g r m) fun k m => catC d k m := rfl
@[simp] theorem catC_lst {a b : List D} {m : Sto} : catC (.lst a) (.lst b) m = if a.length + b.length ≤ LIM then .ok (.lst (a ++ b)) m else .bad := rfl
theorem refusals_b [C : LamC] {w t : D} {c : Nat} {k : Int} (h : Refused w c k) (hk : KD__law_kind c (.int k) = some t) {m : Sto} (hm : m[2]? = some (.tab C.P C.q)) :
    fD n__law_refusals (@b__law_refusals C) [w] m = .ok (.lst ((List.range 11).map fun _ => t)) m := by
  have hlam : ∀ (n : Nat) (r : Env), sLamN 2 n r m = .ok (.fn n (C.L n)) m := fun n r => ev_lamN hm
  have hl3 : (3 : Nat) ≤ LIM := by decide
  have hl6 : (6 : Nat) ≤ LIM := by decide
  have hl7 : (7 : Nat) ≤ LIM := by decide
  have hl10 : (10 : Nat) ≤ LIM := by decide
  have hl11 : (11 : Nat) ≤ LIM := by decide
  have hl1 : (1 : Nat) ≤ LIM := by decide
  have hb6 : (6 : Nat) < LIM := by decide
  have ht := told_all (C := C) h hk (m := m) (c1 := some (.lst ((List.range 10).map fun n => .fn n (C.L n))))
  show ofFl (b__law_refusals [some (.val w), none, none] m) = _
  unfold b__law_refusals
  rw [seq_nx (r1 := [some (.val w), some (.lst [.fn 0 (C.L 0), .fn 1 (C.L 1), .fn 2 (C.L 2)]), none]) (m1 := m) (by simp [hlam, hl3])]
  rw [seq_nx (r1 := [some (.val w), some (.lst [.fn 0 (C.L 0), .fn 1 (C.L 1), .fn 2 (C.L 2), .fn 3 (C.L 3), .fn 4 (C.L 4), .fn 5 (C.L 5)]), none]) (m1 := m) (by simp [hlam, hl3, hl6])]
  rw [seq_nx (r1 := [some (.val w), some (.lst [.fn 0 (C.L 0), .fn 1 (C.L 1), .fn 2 (C.L 2), .fn 3 (C.L 3), .fn 4 (C.L 4), .fn 5 (C.L 5), .fn 6 (C.L 6)]), none]) (m1 := m) (by simp [hlam, hb6])]
  rw [seq_nx (r1 := [some (.val w), some (.lst ((List.range 10).map fun n => .fn n (C.L n))), none]) (m1 := m) (by simp [hlam, hl3, hl10]; rfl)]
  have hcat : opAdd (.lst ((List.range 10).map fun n => .fn n (C.L n))) (.lst [.fn 10 (C.L 10)]) m = .ok (.lst ((List.range 11).map fun n => .fn n (C.L n))) m := by
    have e : (List.range 11).map (fun n => D.fn n (C.L n)) = (List.range 10).map (fun n => D.fn n (C.L n)) ++ [D.fn 10 (C.L 10)] := rfl
    rw [e]
    show (if (10 : Nat) + 1 ≤ LIM then R.ok _ m else R.bad) = _
    exact if_pos hl11
  have hit : sIt (sBin opAdd (sPk 1) (sLst (aCons (sLamN 2 10) aNil))) [some (.val w), some (.lst ((List.range 10).map fun n => .fn n (C.L n))), none] m = .ok ((List.range 11).map fun n => .fn n (C.L n)) m := by
    have e1 : sBin opAdd (sPk 1) (sLst (aCons (sLamN 2 10) aNil)) [some (.val w), some (.lst ((List.range 10).map fun n => .fn n (C.L n))), none] m = .ok (.lst ((List.range 11).map fun n => .fn n (C.L n))) m := by
      rw [ev_bin, show sPk 1 [some (.val w), some (.lst ((List.range 10).map fun n => .fn n (C.L n))), none] m = .ok (.lst ((List.range 10).map fun n => .fn n (C.L n))) m from rfl, bindR_ok]
      rw [show sLst (aCons (sLamN 2 10) aNil) [some (.val w), some (.lst ((List.range 10).map fun n => .fn n (C.L n))), none] m = .ok (.lst [.fn 10 (C.L 10)]) m from by simp [hlam, hl1], bindR_ok]
      exact hcat
    show bindR (sBin opAdd (sPk 1) (sLst (aCons (sLamN 2 10) aNil)) [some (.val w), some (.lst ((List.range 10).map fun n => .fn n (C.L n))), none] m) _ = _
    rw [e1]
    rfl
  simp only [ev_ret, ev_Lc, hit, bindR_ok]
  rw [if_pos (by simp [hl11])]
  simp only [wipeE_cons, wipeE_nil, List.set_cons_succ, List.set_cons_zero]
  rw [ht]
  rfl
theorem refusals_ok [C2 : Lam2C] {w t : D} {c : Nat} {k : Int} (h : Refused w c k) (hk : KD__law_kind c (.int k) = some t) {m : Sto} (hm : m[2]? = some (.tab C2.P C2.q)) : f__law_refusals [w] m = .ok (.lst ((List.range 11).map fun _ => t)) m :=
  indF_eq fun C hP hq => refusals_b (C := C) h hk (by rw [hP, hq]; exact hm)
end Dl
namespace Dl
open PySem PySem.Spec PyProof.Rows L2 TL
/-! ### the law's three odd worlds -/
theorem at_put_lt {α : Type} {l : List α} {n j : Nat} {x : α} (hn : n ≤ l.length) (hj : j < n) : (l.take n ++ [x] ++ l.drop n)[j]? = l[j]? := by
  rw [List.append_assoc, List.getElem?_append_left (by simp; omega), List.getElem?_take, if_pos hj]
theorem at_put {α : Type} {l : List α} {n : Nat} {x : α} (hn : n ≤ l.length) : (l.take n ++ [x] ++ l.drop n)[n]? = some x := by
  rw [List.append_assoc, List.getElem?_append_right (by simp; omega)]
  simp [Nat.min_eq_left hn]
theorem odd_sign {c : Nat} (hc : c ∈ [102, 65, 45, 122, 32, 49]) : ¬ K5 c ∧ c < 1114112 := by
  simp only [List.mem_cons, List.not_mem_nil, or_false] at hc
  rcases hc with rfl | rfl | rfl | rfl | rfl | rfl <;> exact ⟨by simp [K5], by decide⟩
theorem row_odd {row : List Nat} (hk : ∀ k ∈ row, K5 k) (hl : row.length ≤ 11) {n : Nat} (hn : n ≤ row.length) {c : Nat} (hc : c ∈ [102, 65, 45, 122, 32, 49]) {b r : D} : Refused (.tup [.str (row.take n ++ [c] ++ row.drop n), b, r]) 0 n := by
  obtain ⟨h1, h2⟩ := odd_sign hc
  refine refused_row fun m => need_row_bad (k := n) (c := c) (by simp; omega) ?_ (at_put hn) (by omega) (fun j c' hj e => ?_) (.inr h1) m
  · show List.all _ _ = true
    rw [List.all_eq_true]
    intro x hx
    simp only [List.append_assoc, List.mem_append, List.mem_cons, List.not_mem_nil, or_false] at hx
    rcases hx with hx | rfl | hx
    · exact decide_eq_true (k5_lt (hk x (List.mem_of_mem_take hx)))
    · exact decide_eq_true h2
    · exact decide_eq_true (k5_lt (hk x (List.mem_of_mem_drop hx)))
  · rw [at_put_lt hn hj] at e
    exact hk c' (List.mem_of_getElem? e)
theorem enc_int (l : List Nat) : encB l = intL (l.map fun (b : Nat) => (b : Int)) := by
  unfold encB intL
  rw [List.map_map]
  rfl
theorem bars_odd {W : Wld} (h : WOk W) {n : Nat} (hn : n ≤ W.bars.length) {x : Int} (bad : x < 0 ∨ (W.row.length : Int) - 1 ≤ x ∨ ∃ j b, n = j + 1 ∧ W.bars[j]? = some b ∧ x ≤ (b : Nat)) {r : D} : Refused (.tup [.str W.row, .tup (encB (W.bars.take n) ++ [.int x] ++ encB (W.bars.drop n)), r]) 1 n := by
  have e : encB (W.bars.take n) ++ [.int x] ++ encB (W.bars.drop n) = intL ((W.bars.map fun (b : Nat) => (b : Int)).take n ++ [x] ++ (W.bars.map fun (b : Nat) => (b : Int)).drop n) := by
    rw [enc_int, enc_int, ← List.map_take, ← List.map_drop]
    simp [intL]
  have hm : n ≤ (W.bars.map fun (b : Nat) => (b : Int)).length := by simpa using hn
  rw [e]
  refine refused_bars (need_row_ok h) fun m => need_bars_bad (k := n) (g := x) (by have := h.len; omega) (at_put hm) (fun j a hj e => ?_) (fun z => ?_) m
  · rw [at_put_lt hm hj, List.getElem?_map] at e
    cases hb : W.bars[j]? with
    | none => rw [hb] at e; cases e
    | some b =>
      rw [hb] at e
      have e : (b : Int) = a := Option.some.inj e
      subst e
      have h1 := bars_lt h (List.mem_of_getElem? hb)
      refine ⟨by omega, by omega, fun i a e1 e2 => ?_⟩
      rw [at_put_lt hm (by omega), List.getElem?_map] at e2
      cases hb2 : W.bars[i]? with
      | none => rw [hb2] at e2; cases e2
      | some b2 =>
        rw [hb2] at e2
        have e2 : (b2 : Int) = a := Option.some.inj e2
        subst e2 e1
        have := bars_inc h hb2 hb
        omega
  · obtain ⟨h0, h1, h2⟩ := z
    rcases bad with z | z | ⟨j, b, e1, e2, z⟩
    · omega
    · omega
    · have := h2 j b e1 (by
        rw [at_put_lt hm (by omega), List.getElem?_map, e2]
        rfl)
      omega
theorem rules_odd {W : Wld} (h : WOk W) {n : Nat} (hn : n ≤ W.rules.length) {x : D} (bad : ∀ m, f_is_rule [x] m = .ok (.bl false) m) (m : Sto) : f_need_rules [.tup (W.rules.map encR |>.take n |> (· ++ [x]) |> (· ++ (W.rules.map encR).drop n))] m = .exc 2 (.int n) m := by
  have hm : n ≤ (W.rules.map encR).length := by simpa using hn
  have h5 := h.rl
  refine need_rules_bad (k := n) (d := x) (at_put hm) (by omega) (fun j y hj e => ?_) (.inr bad) m
  rw [at_put_lt hm hj, List.getElem?_map] at e
  cases hb : W.rules[j]? with
  | none => rw [hb] at e; cases e
  | some q =>
    rw [hb] at e
    have e : encR q = y := Option.some.inj e
    subst e
    exact is_rule_ok (h.r q (List.mem_of_getElem? hb))
def oddR (f : Int) : List D := [.tup [.str [102], .str [97], .int 1, .int 1, .str [98]], .tup [.str [97], .str [102], .int 1, .int 1, .str [98]], .tup [.str [97], .str [98], .int 1, .int 1, .str [102]], .tup [.str [97], .str [98], .int 1, .int 1, .str [97]], .tup [.str [97], .str [98], .int (0 - f), .int 1, .str [99]], .tup [.str [97], .str [98], .int (3 + f), .int 1, .str [99]], .tup [.str [97], .str [98], .int 1, .int (0 - f), .str [99]], .tup [.str [97], .str [98], .int 1, .int (5 + f), .str [99]], .tup [.str [97, 98], .str [98], .int 1, .int 1, .str [99]], .tup [.str [97], .str [98], .int 1, .int 1, .str []], .tup [.str [], .str [98], .int 1, .int 1, .str [99]]]
theorem five_rule {a b c : List Nat} {i j : Int} {ta tb tc : Bool} (ha : ∀ m, f_is_kind [.str a] m = .ok (.bl ta) m) (hb : ∀ m, f_is_kind [.str b] m = .ok (.bl tb) m) (hc : ∀ m, f_is_kind [.str c] m = .ok (.bl tc) m) (hs : okN 60 (.str a) = true) (hs2 : okN 60 (.str c) = true)
    (bad : ta = false ∨ tb = false ∨ tc = false ∨ c = a ∨ i < 1 ∨ 2 < i ∨ j < 1 ∨ 4 < j) (m : Sto) : f_is_rule [.tup [.str a, .str b, .int i, .int j, .str c]] m = .ok (.bl false) m := by
  show ofFl (b_is_rule [some (.val (.tup [.str a, .str b, .int i, .int j, .str c]))] m) = _
  unfold b_is_rule
  have a1 : atI [D.str a, .str b, .int i, .int j, .str c] 1 = some (.str b) := rfl
  have a2 : atI [D.str a, .str b, .int i, .int j, .str c] 2 = some (.int i) := rfl
  have a3 : atI [D.str a, .str b, .int i, .int j, .str c] 3 = some (.int j) := rfl
  have a4 : atI [D.str a, .str b, .int i, .int j, .str c] 4 = some (.str c) := rfl
  cases ta
  · simp [a1, a2, a3, a4, ha, hb, hc]
  cases tb
  · simp [a1, a2, a3, a4, ha, hb, hc]
  cases tc
  · simp [a1, a2, a3, a4, ha, hb, hc]
  by_cases e1 : c = a
  · subst e1
    simp [a1, a2, a3, a4, ha, hb, hs]
  by_cases e2 : 1 ≤ i
  · by_cases e3 : i ≤ 2
    · by_cases e4 : 1 ≤ j
      · have e5 : ¬ j ≤ 4 := by
          rcases bad with z | z | z | z | z | z | z | z <;> first | exact absurd z e1 | cases z | omega
        simp [a1, a2, a3, a4, ha, hb, hc, hs, hs2, e1, e2, e3, e4, e5]
      · simp [a1, a2, a3, a4, ha, hb, hc, hs, hs2, e1, e2, e3, e4]
    · simp [a1, a2, a3, a4, ha, hb, hc, hs, hs2, e1, e2, e3]
  · simp [a1, a2, a3, a4, ha, hb, hc, hs, hs2, e1, e2]
theorem oddR_bad {f : Int} (hf : 0 ≤ f) {x : D} (hx : x ∈ oddR f) (m : Sto) : f_is_rule [x] m = .ok (.bl false) m := by
  have ka : ∀ m, f_is_kind [.str [97]] m = .ok (.bl true) m := fun _ => rfl
  have kb : ∀ m, f_is_kind [.str [98]] m = .ok (.bl true) m := fun _ => rfl
  have kc : ∀ m, f_is_kind [.str [99]] m = .ok (.bl true) m := fun _ => rfl
  have kf : ∀ m, f_is_kind [.str [102]] m = .ok (.bl false) m := fun _ => rfl
  have kab : ∀ m, f_is_kind [.str [97, 98]] m = .ok (.bl false) m := fun _ => rfl
  have k0 : ∀ m, f_is_kind [.str []] m = .ok (.bl false) m := fun _ => rfl
  simp only [oddR, List.mem_cons, List.not_mem_nil, or_false] at hx
  rcases hx with rfl | rfl | rfl | rfl | rfl | rfl | rfl | rfl | rfl | rfl | rfl
  · exact five_rule kf ka kb rfl rfl (by simp) m
  · exact five_rule ka kf kb rfl rfl (by simp) m
  · exact five_rule ka kb kf rfl rfl (by simp) m
  · exact five_rule ka kb ka rfl rfl (by simp) m
  · exact five_rule ka kb kc rfl rfl (by right; right; right; right; left; omega) m
  · exact five_rule ka kb kc rfl rfl (by right; right; right; right; right; left; omega) m
  · exact five_rule ka kb kc rfl rfl (by right; right; right; right; right; right; left; omega) m
  · exact five_rule ka kb kc rfl rfl (by right; right; right; right; right; right; right; omega) m
  · exact five_rule kab kb kc rfl rfl (by simp) m
  · exact five_rule ka kb k0 rfl rfl (by simp) m
  · exact five_rule k0 kb kc rfl rfl (by simp) m
/-! ### what is told -/
def told (z : List Nat) (k : Int) : D := .tup [.str z, .int k]
theorem told_mul {z : List Nat} {k : Int} {m : Sto} : opMul (.lst [told z k]) (.int 11) m = .ok (.lst ((List.range 11).map fun _ => told z k)) m := rfl
theorem told_mul2 {z : List Nat} {k : Int} {m : Sto} : opMul (.lst [told z k]) (.int 2) m = .ok (.lst [told z k, told z k]) m := rfl
theorem told_okN {z : List Nat} (hz : okN 58 (.str z) = true) (k : Int) : okN 59 (told z k) = true := by
  show [D.str z, .int k].all (okN 58) = true
  simp only [List.all_cons, List.all_nil, hz, Bool.and_true, Bool.true_and]
  rfl
theorem told_ne {z : List Nat} (hz : okN 58 (.str z) = true) {k : Int} {m : Sto} : opNe (.lst ((List.range 11).map fun _ => told z k)) (.lst ((List.range 11).map fun _ => told z k)) m = .ok (.bl false) m := by
  have h := told_okN hz k
  have h1 : okN 60 (.lst ((List.range 11).map fun _ => told z k)) = true := by
    show ((List.range 11).map fun _ => told z k).all (okN 59) = true
    simp [h]
  have h2 : eqD (told z k) (told z k) = true := by simp [told]
  have h3 : eqD (.lst ((List.range 11).map fun _ => told z k)) (.lst ((List.range 11).map fun _ => told z k)) = true := by
    rw [eqD_lst]
    simp [List.range_succ, h2]
  unfold opNe
  rw [if_pos ⟨h1, h1⟩, h3]
  rfl
theorem told_ne2 {z : List Nat} (hz : okN 58 (.str z) = true) {k : Int} {m : Sto} : opNe (.lst [told z k, told z k]) (.lst [told z k, told z k]) m = .ok (.bl false) m := by
  have h := told_okN hz k
  have h1 : okN 60 (.lst [told z k, told z k]) = true := by
    show [told z k, told z k].all (okN 59) = true
    simp [h]
  have h2 : eqD (told z k) (told z k) = true := by simp [told]
  have h3 : eqD (.lst [told z k, told z k]) (.lst [told z k, told z k]) = true := by
    rw [eqD_lst]
    simp [h2]
  unfold opNe
  rw [if_pos ⟨h1, h1⟩, h3]
  rfl
end Dl
namespace Dl
open PySem PySem.Spec PyProof.Rows L2 TL
theorem Good.tab2 [C : LamC] [C2 : Lam2C] {ρ m : Sto} (h : Good (.tab C.P C.q :: .tab C2.P C2.q :: ρ) m) : m[1]? = some (.tab C.P C.q) ∧ m[2]? = some (.tab C2.P C2.q) := by
  obtain ⟨s, cs, p, rfl, _⟩ := h
  exact ⟨rfl, rfl⟩
def grown (m : Sto) : Sto := m ++ [.ins "Shelf" []]
theorem Good.more {ρ m : Sto} {x : MObj} (h : Good ρ m) : Good (ρ ++ [x]) (m ++ [x]) := by
  obtain ⟨s, cs, p, rfl, h1, h2⟩ := h
  exact ⟨s, cs, p, rfl, h1, h2⟩
theorem far2 {v : Int} (h0 : 0 ≤ v) (h1 : v < 2) {m : Sto} : ∃ q, opIx (.lst [.int 1, .int 1000000]) (.int v) m = .ok (.int q) m ∧ (q = 1 ∨ q = 1000000) := by
  have : v = 0 ∨ v = 1 := by omega
  rcases this with rfl | rfl
  · exact ⟨1, rfl, .inl rfl⟩
  · exact ⟨1000000, rfl, .inr rfl⟩
theorem sign6 {v : Int} (h0 : 0 ≤ v) (h1 : v < 6) {m : Sto} : ∃ c : Nat, opIx (.str [102, 65, 45, 122, 32, 49]) (.int v) m = .ok (.str [c]) m ∧ c ∈ [102, 65, 45, 122, 32, 49] := by
  have : v = 0 ∨ v = 1 ∨ v = 2 ∨ v = 3 ∨ v = 4 ∨ v = 5 := by omega
  rcases this with rfl | rfl | rfl | rfl | rfl | rfl
  · exact ⟨102, rfl, by simp⟩
  · exact ⟨65, rfl, by simp⟩
  · exact ⟨45, rfl, by simp⟩
  · exact ⟨122, rfl, by simp⟩
  · exact ⟨32, rfl, by simp⟩
  · exact ⟨49, rfl, by simp⟩
theorem cut_last {α : Type} (l : List α) : cutL l (some (-1)) none = l.drop (l.length - 1) := by
  have h1 : HT.sIx l.length l.length none = l.length := rfl
  have h2 : HT.sIx l.length 0 (some (-1)) = l.length - 1 := by
    simp only [HT.sIx]
    rw [if_pos (by decide)]
    omega
  unfold cutL
  rw [h1, h2]
  rw [List.take_of_length_le (by simp)]
theorem lcL_one {g : Gm} {t : SB} {f : SE} {r0 r' : Env} {d y : D} {l ys : List D} {m m1 m2 : Sto} (h1 : g d r0 = some r') (h2 : t r' m = .ok true m) (h3 : f r' m = .ok y m1) (h4 : lcL g t f r0 l m1 = .ok ys m2) : lcL g t f r0 (d :: l) m = .ok (y :: ys) m2 := by
  show (match g d r0 with
  | none => (R.bad : R (List D))
  | some r' => bindN (t r' m) fun b m => if b = true then bindN (f r' m) fun y m => bindN (lcL g t f r0 l m) fun ys m => .ok (y :: ys) m else lcL g t f r0 l m) = _
  rw [h1]
  dsimp only
  rw [h2, bindN_ok, if_pos rfl, h3, bindN_ok, h4, bindN_ok]
theorem shelf_x {o bad : D} {c : Nat} {k : Int} (h : ∀ m, f_need_rules [bad] m = .exc c (.int k) m) (m : Sto) : f_Shelf___init__ [o, bad] m = .exc c (.int k) m := by
  show ofFl (b_Shelf___init__ [some (.val o), some (.val bad), none] m) = _
  unfold b_Shelf___init__
  rw [seq_exc (c := c) (v := .int k) (r' := [some (.val o), some (.val bad), none]) (m' := m) (by simp [h])]
  rfl
theorem made_x {bad : D} {c : Nat} {k : Int} (h : ∀ m, f_need_rules [bad] m = .exc c (.int k) m) (m : Sto) : madeF "Shelf" 2 f_Shelf___init__ [bad] m = .exc c (.int k) (grown m) := by
  unfold madeF
  rw [ev_callF, if_pos (show ([D.obj m.length, bad] : List D).length = 2 from rfl), shelf_x h]
  rfl
theorem again_x {bad x : D} {c : Nat} {k : Int} (h : ∀ m, f_need_rules [bad] m = .exc c (.int k) m) (m : Sto) : f_again [bad, x] m = .exc c (.int k) (grown m) := by
  show ofFl (b_again (startE n_again [bad, x]) m) = _
  unfold b_again
  have e : sMake "Shelf" 2 f_Shelf___init__ (aCons (sVar 0) aNil) (startE n_again [bad, x]) m = .exc c (.int k) (grown m) := by
    show bindR (aCons (sVar 0) aNil (startE n_again [bad, x]) m) _ = _
    rw [show aCons (sVar 0) aNil (startE n_again [bad, x]) m = .ok [bad] m from rfl, bindR_ok]
    exact made_x h m
  rw [seq_exc (c := c) (v := .int k) (r' := startE n_again [bad, x]) (m' := grown m) (by
    show bindS _ (bindR (sMake "Shelf" 2 f_Shelf___init__ (aCons (sVar 0) aNil) (startE n_again [bad, x]) m) _) _ = _
    rw [e]
    rfl)]
  rfl
theorem gap_last [LamC] [Lam2C] {W : Wld} {n : Nat} (hn : n ≤ W.bars.length) (hb : ∀ b ∈ W.bars, b < 12) {ρ m : Sto} (hm : Good ρ m) {c0 c2 c3 c4 c5 c6 c7 c8 c9 c11 c12 c13 c14 : Option Cell} :
    ∃ (xs : List Int) (m' : Sto), lcL g_law1 sYes f_law2 [c0, some (.val (.obj 0)), c2, c3, c4, c5, c6, c7, c8, c9, none, c11, c12, c13, c14] (cutL ((encB W.bars).take n) (some (-1)) none) m = .ok (xs.map D.int) m' ∧ Good ρ m' ∧ (xs = [] ∨ ∃ j b x, xs = [x] ∧ n = j + 1 ∧ W.bars[j]? = some b ∧ x ≤ (b : Nat)) := by
  rw [cut_last]
  cases n with
  | zero =>
    refine ⟨[], m, ?_, hm, .inl rfl⟩
    rw [List.take_zero]
    rfl
  | succ j =>
    have hj : j < W.bars.length := by omega
    have e : ((encB W.bars).take (j + 1)).drop (((encB W.bars).take (j + 1)).length - 1) = [.int (W.bars[j] : Nat)] := by
      have hl : (encB W.bars).length = W.bars.length := by simp [encB]
      have hle : ((encB W.bars).take (j + 1)).length - 1 = j := by
        rw [List.length_take, hl]
        omega
      rw [hle, List.drop_take, show j + 1 - j = 1 by omega]
      have : (encB W.bars).drop j = .int (W.bars[j] : Nat) :: (encB W.bars).drop (j + 1) := by
        rw [List.drop_eq_getElem_cons (by rw [hl]; exact hj)]
        simp [encB]
      rw [this]
      rfl
    have hbj := hb _ (List.getElem_mem hj)
    obtain ⟨v, m1, e1, a1, b1, g1⟩ := draw hm (k := (W.bars[j] : Nat) + 1) (by omega) (by omega)
    refine ⟨[(W.bars[j] : Nat) - v], m1, ?_, g1, .inr ⟨j, W.bars[j], _, rfl, rfl, List.getElem?_eq_getElem hj, by omega⟩⟩
    rw [e]
    exact lcL_one (r' := [c0, some (.val (.obj 0)), c2, c3, c4, c5, c6, c7, c8, c9, some (.val (.int (W.bars[j] : Nat))), c11, c12, c13, c14]) rfl rfl (by simp [f_law2, f__law_next, e1]) rfl
theorem refused2 [C : LamC] [C2 : Lam2C] {bad : D} {k : Int} (h : ∀ m, f_need_rules [bad] m = .exc 2 (.int k) m) {m : Sto} {c0 c1 c2 c3 c4 c5 c6 c7 c9 c10 c11 c13 c14 : Option Cell} :
    lcL (gN 12) sYes (sKind LT_law KD__law_kind (sVar 12)) [c0, c1, c2, c3, c4, c5, c6, c7, some (.val bad), c9, c10, c11, none, c13, c14] [.fn 0 (C.L 0), .fn 1 (C.L 1)] m = .ok [told [114, 117, 108, 101, 115] k, told [114, 117, 108, 101, 115] k] (grown (grown m)) := by
  have hl1 : (1 : Nat) ≤ LIM := by decide
  have hl0 : (0 : Nat) ≤ LIM := by decide
  refine lcL_one (m1 := grown m) rfl rfl ?_ (lcL_one rfl rfl ?_ rfl)
  · rw [ev_kind, ev_var, List.getElem?_set_self (by simp)]
    refine Eq.trans (b := toldR LT_law KD__law_kind [c0, c1, c2, c3, c4, c5, c6, c7, some (.val bad), c9, c10, c11, some (.val (.fn 0 (C.L 0))), c13, c14] (.fn 0 (C.L 0)) m) rfl ?_
    exact told_exc (LT := LT_law) (KD := KD__law_kind) (k := 0) (r := [c0, c1, c2, c3, c4, c5, c6, c7, some (.val bad), c9, c10, c11, some (.val (.fn 0 (C.L 0))), c13, c14]) (m1 := m) (m2 := grown m) (q := lt_law_0) (ds := [bad]) (c := 2) (v := .int k) rfl rfl (by
      show sMake "Shelf" 2 f_Shelf___init__ (aCons (sVar 0) aNil) (lamE lt_law_0 [bad]) m = _
      unfold sMake
      rw [show aCons (sVar 0) aNil (lamE lt_law_0 [bad]) m = .ok [bad] m from rfl, bindR_ok]
      exact made_x h m) (show KD__law_kind 2 (.int k) = some (told [114, 117, 108, 101, 115] k) from rfl)
  · rw [ev_kind, ev_var, List.getElem?_set_self (by simp)]
    refine Eq.trans (b := toldR LT_law KD__law_kind [c0, c1, c2, c3, c4, c5, c6, c7, some (.val bad), c9, c10, c11, some (.val (.fn 1 (C.L 1))), c13, c14] (.fn 1 (C.L 1)) (grown m)) rfl ?_
    exact told_exc (LT := LT_law) (KD := KD__law_kind) (k := 1) (r := [c0, c1, c2, c3, c4, c5, c6, c7, some (.val bad), c9, c10, c11, some (.val (.fn 1 (C.L 1))), c13, c14]) (m1 := grown m) (m2 := grown (grown m)) (q := lt_law_1) (ds := [bad]) (c := 2) (v := .int k) rfl rfl (by
      simp [lt_law_1, lamE, startE, hl1, hl0, again_x h]) (show KD__law_kind 2 (.int k) = some (told [114, 117, 108, 101, 115] k) from rfl)
theorem turn01 [C : LamC] [C2 : Lam2C] {c0 : Option Cell} {ρ : Sto} (d : D) (m : Sto) (hm : Good (.tab C.P C.q :: .tab C2.P C2.q :: ρ) m) :
    ∃ ρ' m', b_law3 [c0, some (.val (.obj 0)), some (.val (d)), none, none, none, none, none, none, none, none, none, none, none, none] m = .nx [c0, some (.val (.obj 0)), none, none, none, none, none, none, none, none, none, none, none, none, none] m' ∧ Good (.tab C.P C.q :: .tab C2.P C2.q :: ρ') m' := by
  have h0 : (0 : Nat) ≤ LIM := by decide
  have h1 : (1 : Nat) ≤ LIM := by decide
  have h2 : (2 : Nat) ≤ LIM := by decide
  have h3 : (3 : Nat) ≤ LIM := by decide
  have h4 : (4 : Nat) ≤ LIM := by decide
  have h5 : (5 : Nat) ≤ LIM := by decide
  have h7 : (7 : Nat) ≤ LIM := by decide
  have h11 : (11 : Nat) ≤ LIM := by decide
  obtain ⟨W, m1, e1, hW, g1⟩ := world_ok (jars := 11) (kinds := 5) (many := 4) (jn := 11) (kn := 5) (mn := 4) (by decide) (by decide) rfl (by decide) (by decide) rfl (by decide) rfl m hm
  have hO : WOk W := hW.ok (by decide) (by decide) (by decide)
  have hlen : W.row.length ≤ 11 := hW.len
  have hz : W.row.length ≤ LIM := lim12 (by omega)
  unfold b_law3
  rw [seq_nx (r1 := [c0, some (.val (.obj 0)), some (.val (d)), some (.val (.str W.row)), some (.val (.tup (encB W.bars))), some (.val (.tup (W.rules.map encR))), none, none, none, none, none, none, none, none, none]) (m1 := m1) (by simp [e1, encW])]
  obtain ⟨v1, m2, e2, a2, b2, g2⟩ := draw g1 (k := 2) (by decide) (by decide)
  obtain ⟨q, eq, hq⟩ := far2 a2 b2 (m := m2)
  obtain ⟨far, m3, e3, a3, b3, g3⟩ := draw g2 (k := q) (by omega) (by omega)
  obtain ⟨v3, m4, e4, a4, b4, g4⟩ := draw g3 (k := (W.row.length : Int) + 1) (by omega) (by omega)
  obtain ⟨n, rfl⟩ : ∃ n : Nat, v3 = n := ⟨v3.toNat, by omega⟩
  have hn : n ≤ W.row.length := by omega
  have p6 : opPow (.int 10) (.int 6) m1 = .ok (.int 1000000) m1 := rfl
  rw [seq_nx (r1 := [c0, some (.val (.obj 0)), some (.val (d)), some (.val (.str W.row)), some (.val (.tup (encB W.bars))), some (.val (.tup (W.rules.map encR))), some (.val (.int far)), some (.val (.int (n : Nat))), none, none, none, none, none, none, none]) (m1 := m4) (by simp [-ev_ix, f__law_next, p6, e2, e3, e4, h2, eq, hz])]
  obtain ⟨v4, m5, e5, a5, b5, g5⟩ := draw g4 (k := 6) (by decide) (by decide)
  obtain ⟨c, ec, hc⟩ := sign6 a5 b5 (m := m5)
  have t1 : opAdd (.str (W.row.take n)) (.str [c]) m5 = .ok (.str (W.row.take n ++ [c])) m5 := if_pos (lim12 (by simp; omega))
  have t2 : opAdd (.str (W.row.take n ++ [c])) (.str (W.row.drop n)) m5 = .ok (.str (W.row.take n ++ [c] ++ W.row.drop n)) m5 := if_pos (lim12 (by simp; omega))
  have s1 : opSl (.str W.row) none (some (n : Int)) m4 = .ok (.str (W.row.take n)) m4 := by
    rw [← cut_take hn]
    exact if_pos hz
  have s2 : opSl (.str W.row) (some (n : Int)) none m5 = .ok (.str (W.row.drop n)) m5 := by
    rw [← cut_drop hn]
    exact if_pos hz
  rw [seq_nx (r1 := [c0, some (.val (.obj 0)), some (.val (d)), some (.val (.str W.row)), some (.val (.tup (encB W.bars))), some (.val (.tup (W.rules.map encR))), some (.val (.int far)), some (.val (.int (n : Nat))), some (.val (.str (W.row.take n ++ [c] ++ W.row.drop n))), none, none, none, none, none, none]) (m1 := m5) (by
    simp only [ev_set, ev_cV, ev_bin, ev_sl, ev_pk, List.getElem?_cons_succ, List.getElem?_cons_zero, ev_oNone, ev_oSome, bindR_ok, s1, ev_c, ev_call, ev_cons, ev_nil, ev_var, ev_callF, f__law_next, List.length_cons, List.length_nil, if_true, e5, ec, t1, s2, t2, bindS_ok, List.set_cons_succ, List.set_cons_zero])]
  have f1 : f__law_refusals [.tup [.str (W.row.take n ++ [c] ++ W.row.drop n), .tup [.int 99], .tup [.tup [.str [120]]]]] m5 = .ok (.lst ((List.range 11).map fun _ => told [114, 111, 119] n)) m5 := refusals_ok (row_odd hO.k hlen hn hc) rfl (Good.tab2 g5).2
  have n1 := told_ne (z := [114, 111, 119]) rfl (k := n) (m := m5)
  rw [seq_nx (r1 := [c0, some (.val (.obj 0)), some (.val (d)), some (.val (.str W.row)), some (.val (.tup (encB W.bars))), some (.val (.tup (W.rules.map encR))), some (.val (.int far)), some (.val (.int (n : Nat))), some (.val (.str (W.row.take n ++ [c] ++ W.row.drop n))), none, none, none, none, none, none]) (m1 := m5) (by
    have q1 : opMul (.lst [.tup [.str [114, 111, 119], .int (n : Nat)]]) (.int 11) m5 = .ok (.lst ((List.range 11).map fun _ => told [114, 111, 119] n)) m5 := told_mul
    simp only [ev_ifS, ev_B, ev_bin, ev_call, ev_callF, ev_cons, ev_nil, ev_tup, ev_lst, ev_var, ev_c, List.getElem?_cons_succ, List.getElem?_cons_zero, bindR_ok, List.length_cons, List.length_nil, Nat.zero_add, Nat.reduceAdd, h1, h2, h3, if_true, f1, q1, n1, bindS_ok, Bool.false_eq_true, if_false, ev_skip])]
  obtain ⟨v6, m6, e6, a6, b6, g6⟩ := draw g5 (k := (W.bars.length : Int) + 1) (by omega) (by have := hO.bars.length_le; simp at this; omega)
  obtain ⟨n2, rfl⟩ : ∃ n : Nat, v6 = n := ⟨v6.toNat, by omega⟩
  have hn2 : n2 ≤ W.bars.length := by omega
  have hlb : W.bars.length ≤ 11 := by have := hO.bars.length_le; simp at this; omega
  have elb : (encB W.bars).length = W.bars.length := by simp [encB]
  rw [seq_nx (r1 := [c0, some (.val (.obj 0)), some (.val (d)), some (.val (.str W.row)), some (.val (.tup (encB W.bars))), some (.val (.tup (W.rules.map encR))), some (.val (.int far)), some (.val (.int (n2 : Nat))), some (.val (.str (W.row.take n ++ [c] ++ W.row.drop n))), none, none, none, none, none, none]) (m1 := m6) (by simp [f__law_next, elb, e6])]
  have hbb : ∀ b ∈ W.bars, b < 12 := fun b hb => by
    have := bars_lt hO hb
    omega
  obtain ⟨xs, m7, e7, g7, hxs⟩ := gap_last (W := W) hn2 hbb g6 (c0 := c0) (c2 := some (.val (d))) (c3 := some (.val (.str W.row))) (c4 := some (.val (.tup (encB W.bars)))) (c5 := some (.val (.tup (W.rules.map encR)))) (c6 := some (.val (.int far))) (c7 := some (.val (.int (n2 : Nat)))) (c8 := some (.val (.str (W.row.take n ++ [c] ++ W.row.drop n)))) (c9 := none) (c11 := none) (c12 := none) (c13 := none) (c14 := none)
  have hxl : xs.length ≤ 1 := by
    rcases hxs with rfl | ⟨j, b, x, rfl, _⟩ <;> simp
  have t3 : opAdd (.lst [.int (-1 - far), .int ((W.row.length : Int) - 1 + far)]) (.lst (xs.map D.int)) m7 = .ok (.lst (([-1 - far, (W.row.length : Int) - 1 + far] ++ xs).map D.int)) m7 := by
    rw [List.map_append]
    exact if_pos (lim12 (by simp; omega))
  have ct : cutL (encB W.bars) none (some (n2 : Int)) = (encB W.bars).take n2 := cut_take (by rw [elb]; exact hn2)
  have cd : cutL (encB W.bars) (some (n2 : Int)) none = (encB W.bars).drop n2 := cut_drop (by rw [elb]; exact hn2)
  rw [seq_nx (r1 := [c0, some (.val (.obj 0)), some (.val (d)), some (.val (.str W.row)), some (.val (.tup (encB W.bars))), some (.val (.tup (W.rules.map encR))), some (.val (.int far)), some (.val (.int (n2 : Nat))), some (.val (.str (W.row.take n ++ [c] ++ W.row.drop n))), some (.val (.lst (([-1 - far, (W.row.length : Int) - 1 + far] ++ xs).map D.int))), none, none, none, none, none]) (m1 := m7) (by
    have hlc : (cutL ((encB W.bars).take n2) (some (-1)) none).length ≤ LIM := by
      rw [cut_last, List.length_drop]
      exact lim12 (by rw [List.length_take, elb]; omega)
    have ng : (-(1 : Int)) = -1 := rfl
    simp only [ev_set, ev_cV, ev_bin, ev_lst, ev_cons, ev_nil, ev_Neg, ev_c, ev_pk, List.getElem?_cons_succ, List.getElem?_cons_zero, bindR_ok, ng, sub_int, ev_call, ev_callF, List.length_cons, List.length_nil, Nat.zero_add, Nat.reduceAdd, if_true, len_str, hz, add_int, h2, ev_Lc, ev_It, ev_sl, ev_oNone, ev_oSome, sl_t, ct, itD_t, ofO, hlc, true_and]
    rw [if_pos (by simp)]
    simp only [wipeE_cons, wipeE_nil, List.set_cons_succ, List.set_cons_zero]
    rw [e7]
    simp only [bindR_ok, t3, bindS_ok, List.set_cons_succ, List.set_cons_zero])]
  obtain ⟨v8, m8, e8, a8, b8, g8⟩ := draw g7 (k := ((([-1 - far, (W.row.length : Int) - 1 + far] ++ xs).map D.int).length : Int)) (by simp; omega) (by simp; omega)
  obtain ⟨nx, rfl⟩ : ∃ n : Nat, v8 = n := ⟨v8.toNat, by omega⟩
  have hnx : nx < ([-1 - far, (W.row.length : Int) - 1 + far] ++ xs).length := by
    rw [List.length_map] at b8
    omega
  obtain ⟨x, ex⟩ : ∃ x, ([-1 - far, (W.row.length : Int) - 1 + far] ++ xs)[nx]? = some x := ⟨_, List.getElem?_eq_getElem hnx⟩
  have ex2 : opIx (.lst (([-1 - far, (W.row.length : Int) - 1 + far] ++ xs).map D.int)) (.int (nx : Nat)) m8 = .ok (.int x) m8 := by
    show ofO (atI (([-1 - far, (W.row.length : Int) - 1 + far] ++ xs).map D.int) (nx : Nat)) m8 = _
    rw [atI_nat (x := .int x) (by rw [List.getElem?_map, ex]; rfl)]
    rfl
  have hbad : x < 0 ∨ (W.row.length : Int) - 1 ≤ x ∨ ∃ j b, n2 = j + 1 ∧ W.bars[j]? = some b ∧ x ≤ (b : Nat) := by
    have := List.mem_of_getElem? ex
    simp only [List.mem_append, List.mem_cons, List.not_mem_nil, or_false] at this
    rcases this with (rfl | rfl) | z
    · left; omega
    · right; left; omega
    · rcases hxs with rfl | ⟨j, b, x', rfl, e1, e2, e3⟩
      · simp at z
      · simp only [List.mem_cons, List.not_mem_nil, or_false] at z
        subst z
        exact .inr (.inr ⟨j, b, e1, e2, e3⟩)
  have ek : (encB W.bars).take n2 = encB (W.bars.take n2) := by simp [encB, List.map_take]
  have ekd : (encB W.bars).drop n2 = encB (W.bars.drop n2) := by simp [encB, List.map_drop]
  have lk : (encB (W.bars.take n2)).length ≤ 11 := by simp [encB]; omega
  have lkd : (encB (W.bars.drop n2)).length ≤ 11 := by simp [encB]; omega
  have t4 : opAdd (.tup (encB (W.bars.take n2))) (.tup [.int x]) m8 = .ok (.tup (encB (W.bars.take n2) ++ [.int x])) m8 := if_pos (lim12 (by rw [List.length_singleton]; omega))
  have t5 : opAdd (.tup (encB (W.bars.take n2) ++ [.int x])) (.tup (encB (W.bars.drop n2))) m8 = .ok (.tup (encB (W.bars.take n2) ++ [.int x] ++ encB (W.bars.drop n2))) m8 := if_pos (lim12 (by rw [List.length_append, List.length_singleton]; omega))
  rw [seq_nx (r1 := [c0, some (.val (.obj 0)), some (.val (d)), some (.val (.str W.row)), some (.val (.tup (encB W.bars))), some (.val (.tup (W.rules.map encR))), some (.val (.int far)), some (.val (.int (n2 : Nat))), some (.val (.tup (encB (W.bars.take n2) ++ [.int x] ++ encB (W.bars.drop n2)))), some (.val (.lst (([-1 - far, (W.row.length : Int) - 1 + far] ++ xs).map D.int))), none, none, none, none, none]) (m1 := m8) (by
    simp only [ev_set, ev_cV, ev_bin, ev_sl, ev_pk, List.getElem?_cons_succ, List.getElem?_cons_zero, ev_oNone, ev_oSome, bindR_ok, sl_t, ct, cd, ek, ekd, ev_tup, ev_c, ev_call, ev_cons, ev_nil, ev_var, ev_callF, f__law_next, List.length_cons, List.length_nil, Nat.zero_add, Nat.reduceAdd, if_true, len_lst, e8, ex2, h1, t4, t5, bindS_ok, List.set_cons_succ, List.set_cons_zero])]
  have f2 : f__law_refusals [.tup [.str W.row, .tup (encB (W.bars.take n2) ++ [.int x] ++ encB (W.bars.drop n2)), .tup [.tup [.str [120]]]]] m8 = .ok (.lst ((List.range 11).map fun _ => told [98, 97, 114, 115] n2)) m8 := refusals_ok (bars_odd hO hn2 hbad) rfl (Good.tab2 g8).2
  have n2' := told_ne (z := [98, 97, 114, 115]) rfl (k := n2) (m := m8)
  rw [seq_nx (r1 := [c0, some (.val (.obj 0)), some (.val (d)), some (.val (.str W.row)), some (.val (.tup (encB W.bars))), some (.val (.tup (W.rules.map encR))), some (.val (.int far)), some (.val (.int (n2 : Nat))), some (.val (.tup (encB (W.bars.take n2) ++ [.int x] ++ encB (W.bars.drop n2)))), some (.val (.lst (([-1 - far, (W.row.length : Int) - 1 + far] ++ xs).map D.int))), none, none, none, none, none]) (m1 := m8) (by
    have q1 : opMul (.lst [.tup [.str [98, 97, 114, 115], .int (n2 : Nat)]]) (.int 11) m8 = .ok (.lst ((List.range 11).map fun _ => told [98, 97, 114, 115] n2)) m8 := told_mul
    simp only [ev_ifS, ev_B, ev_bin, ev_call, ev_callF, ev_cons, ev_nil, ev_tup, ev_lst, ev_var, ev_c, List.getElem?_cons_succ, List.getElem?_cons_zero, bindR_ok, List.length_cons, List.length_nil, Nat.zero_add, Nat.reduceAdd, h1, h2, h3, if_true, f2, q1, n2', bindS_ok, Bool.false_eq_true, if_false, ev_skip])]
  have hlr : W.rules.length ≤ 5 := hO.rl
  have elr : (W.rules.map encR).length = W.rules.length := by simp
  obtain ⟨v9, m9, e9, a9, b9, g9⟩ := draw g8 (k := ((W.rules.map encR).length : Int) + 1) (by omega) (by omega)
  obtain ⟨n3, rfl⟩ : ∃ n : Nat, v9 = n := ⟨v9.toNat, by omega⟩
  have hn3 : n3 ≤ W.rules.length := by omega
  rw [seq_nx (r1 := [c0, some (.val (.obj 0)), some (.val (d)), some (.val (.str W.row)), some (.val (.tup (encB W.bars))), some (.val (.tup (W.rules.map encR))), some (.val (.int far)), some (.val (.int (n3 : Nat))), some (.val (.tup (encB (W.bars.take n2) ++ [.int x] ++ encB (W.bars.drop n2)))), some (.val (.lst (([-1 - far, (W.row.length : Int) - 1 + far] ++ xs).map D.int))), none, none, none, none, none]) (m1 := m9) (by
    simp only [ev_set, ev_cV, ev_bin, ev_pk, List.getElem?_cons_succ, List.getElem?_cons_zero, bindR_ok, ev_c, ev_call, ev_cons, ev_nil, ev_var, ev_callF, f__law_next, List.length_cons, List.length_nil, Nat.zero_add, Nat.reduceAdd, if_true, len_tup, add_int, e9, bindS_ok, List.set_cons_succ, List.set_cons_zero])]
  rw [seq_nx (r1 := [c0, some (.val (.obj 0)), some (.val (d)), some (.val (.str W.row)), some (.val (.tup (encB W.bars))), some (.val (.tup (W.rules.map encR))), some (.val (.int far)), some (.val (.int (n3 : Nat))), some (.val (.tup (encB (W.bars.take n2) ++ [.int x] ++ encB (W.bars.drop n2)))), some (.val (.lst [.tup [.str [102], .str [97], .int 1, .int 1, .str [98]], .tup [.str [97], .str [102], .int 1, .int 1, .str [98]], .tup [.str [97], .str [98], .int 1, .int 1, .str [102]], .tup [.str [97], .str [98], .int 1, .int 1, .str [97]]])), none, none, none, none, none]) (m1 := m9) (by simp only [ev_set, ev_cV, ev_bin, ev_lst, ev_tup, ev_cons, ev_nil, ev_c, ev_pk, List.getElem?_cons_succ, List.getElem?_cons_zero, bindR_ok, sub_int, add_int, add_lst, List.length_cons, List.length_nil, Nat.zero_add, Nat.reduceAdd, if_true, h5, h4, h3, h7, h11, List.cons_append, List.nil_append, bindS_ok, List.set_cons_succ, List.set_cons_zero])]
  rw [seq_nx (r1 := [c0, some (.val (.obj 0)), some (.val (d)), some (.val (.str W.row)), some (.val (.tup (encB W.bars))), some (.val (.tup (W.rules.map encR))), some (.val (.int far)), some (.val (.int (n3 : Nat))), some (.val (.tup (encB (W.bars.take n2) ++ [.int x] ++ encB (W.bars.drop n2)))), some (.val (.lst [.tup [.str [102], .str [97], .int 1, .int 1, .str [98]], .tup [.str [97], .str [102], .int 1, .int 1, .str [98]], .tup [.str [97], .str [98], .int 1, .int 1, .str [102]], .tup [.str [97], .str [98], .int 1, .int 1, .str [97]], .tup [.str [97], .str [98], .int (0 - far), .int 1, .str [99]], .tup [.str [97], .str [98], .int (3 + far), .int 1, .str [99]], .tup [.str [97], .str [98], .int 1, .int (0 - far), .str [99]]])), none, none, none, none, none]) (m1 := m9) (by simp only [ev_set, ev_cV, ev_bin, ev_lst, ev_tup, ev_cons, ev_nil, ev_c, ev_pk, List.getElem?_cons_succ, List.getElem?_cons_zero, bindR_ok, sub_int, add_int, add_lst, List.length_cons, List.length_nil, Nat.zero_add, Nat.reduceAdd, if_true, h5, h4, h3, h7, h11, List.cons_append, List.nil_append, bindS_ok, List.set_cons_succ, List.set_cons_zero])]
  rw [seq_nx (r1 := [c0, some (.val (.obj 0)), some (.val (d)), some (.val (.str W.row)), some (.val (.tup (encB W.bars))), some (.val (.tup (W.rules.map encR))), some (.val (.int far)), some (.val (.int (n3 : Nat))), some (.val (.tup (encB (W.bars.take n2) ++ [.int x] ++ encB (W.bars.drop n2)))), some (.val (.lst (oddR far))), none, none, none, none, none]) (m1 := m9) (by simp only [ev_set, ev_cV, ev_bin, ev_lst, ev_tup, ev_cons, ev_nil, ev_c, ev_pk, List.getElem?_cons_succ, List.getElem?_cons_zero, bindR_ok, sub_int, add_int, add_lst, List.length_cons, List.length_nil, Nat.zero_add, Nat.reduceAdd, if_true, h5, h4, h3, h7, h11, List.cons_append, List.nil_append, bindS_ok, List.set_cons_succ, List.set_cons_zero, oddR])]
  obtain ⟨v10, m10, e10, a10, b10, g10⟩ := draw g9 (k := 11) (by omega) (by omega)
  obtain ⟨ny, rfl⟩ : ∃ n : Nat, v10 = n := ⟨v10.toNat, by omega⟩
  have hny : ny < (oddR far).length := by
    show ny < 11
    omega
  obtain ⟨y, ey⟩ : ∃ y, (oddR far)[ny]? = some y := ⟨_, List.getElem?_eq_getElem hny⟩
  have ey2 : opIx (.lst (oddR far)) (.int (ny : Nat)) m10 = .ok y m10 := by
    show ofO (atI (oddR far) (ny : Nat)) m10 = _
    rw [atI_nat ey]
    rfl
  have hrb := rules_odd hO hn3 (oddR_bad a3 (List.mem_of_getElem? ey))
  have ct3 : cutL (W.rules.map encR) none (some (n3 : Int)) = (W.rules.map encR).take n3 := cut_take (by rw [elr]; exact hn3)
  have cd3 : cutL (W.rules.map encR) (some (n3 : Int)) none = (W.rules.map encR).drop n3 := cut_drop (by rw [elr]; exact hn3)
  have lt3 : ((W.rules.map encR).take n3).length ≤ 5 := by simp; omega
  have ld3 : ((W.rules.map encR).drop n3).length ≤ 5 := by simp; omega
  have t6 : opAdd (.tup ((W.rules.map encR).take n3)) (.tup [y]) m10 = .ok (.tup ((W.rules.map encR).take n3 ++ [y])) m10 := if_pos (lim12 (by rw [List.length_singleton]; omega))
  have t7 : opAdd (.tup ((W.rules.map encR).take n3 ++ [y])) (.tup ((W.rules.map encR).drop n3)) m10 = .ok (.tup ((W.rules.map encR).take n3 ++ [y] ++ (W.rules.map encR).drop n3)) m10 := if_pos (lim12 (by rw [List.length_append, List.length_singleton]; omega))
  rw [seq_nx (r1 := [c0, some (.val (.obj 0)), some (.val (d)), some (.val (.str W.row)), some (.val (.tup (encB W.bars))), some (.val (.tup (W.rules.map encR))), some (.val (.int far)), some (.val (.int (n3 : Nat))), some (.val (.tup ((W.rules.map encR).take n3 ++ [y] ++ (W.rules.map encR).drop n3))), some (.val (.lst (oddR far))), none, none, none, none, none]) (m1 := m10) (by
    simp only [ev_set, ev_cV, ev_bin, ev_sl, ev_pk, List.getElem?_cons_succ, List.getElem?_cons_zero, ev_oNone, ev_oSome, bindR_ok, sl_t, ct3, cd3, ev_tup, ev_c, ev_call, ev_cons, ev_nil, ev_var, ev_callF, f__law_next, List.length_cons, List.length_nil, Nat.zero_add, Nat.reduceAdd, if_true, e10, ey2, h1, t6, t7, bindS_ok, List.set_cons_succ, List.set_cons_zero])]
  have f3 : f__law_refusals [.tup [.str W.row, .tup (encB W.bars), .tup ((W.rules.map encR).take n3 ++ [y] ++ (W.rules.map encR).drop n3)]] m10 = .ok (.lst ((List.range 11).map fun _ => told [114, 117, 108, 101, 115] n3)) m10 := refusals_ok (refused_rules (need_row_ok hO) (need_bars_ok hO) hrb) rfl (Good.tab2 g10).2
  have n3' := told_ne (z := [114, 117, 108, 101, 115]) rfl (k := n3) (m := m10)
  rw [seq_nx (r1 := [c0, some (.val (.obj 0)), some (.val (d)), some (.val (.str W.row)), some (.val (.tup (encB W.bars))), some (.val (.tup (W.rules.map encR))), some (.val (.int far)), some (.val (.int (n3 : Nat))), some (.val (.tup ((W.rules.map encR).take n3 ++ [y] ++ (W.rules.map encR).drop n3))), some (.val (.lst (oddR far))), none, none, none, none, none]) (m1 := m10) (by
    have q1 : opMul (.lst [.tup [.str [114, 117, 108, 101, 115], .int (n3 : Nat)]]) (.int 11) m10 = .ok (.lst ((List.range 11).map fun _ => told [114, 117, 108, 101, 115] n3)) m10 := told_mul
    simp only [ev_ifS, ev_B, ev_bin, ev_call, ev_callF, ev_cons, ev_nil, ev_tup, ev_lst, ev_var, ev_c, List.getElem?_cons_succ, List.getElem?_cons_zero, bindR_ok, List.length_cons, List.length_nil, Nat.zero_add, Nat.reduceAdd, h1, h2, h3, if_true, f3, q1, n3', bindS_ok, Bool.false_eq_true, if_false, ev_skip])]
  have hlam : ∀ (k : Nat) (r : Env), sLam k r m10 = .ok (.fn k (C.L k)) m10 := fun k r => ev_lam (Good.tab2 g10).1
  rw [seq_nx (r1 := [c0, some (.val (.obj 0)), some (.val (d)), some (.val (.str W.row)), some (.val (.tup (encB W.bars))), some (.val (.tup (W.rules.map encR))), some (.val (.int far)), some (.val (.int (n3 : Nat))), some (.val (.tup ((W.rules.map encR).take n3 ++ [y] ++ (W.rules.map encR).drop n3))), some (.val (.lst (oddR far))), none, some (.val (.lst [.fn 0 (C.L 0), .fn 1 (C.L 1)])), none, none, none]) (m1 := m10) (by
    simp only [ev_set, ev_cV, ev_lst, ev_cons, ev_nil, hlam, bindR_ok, List.length_cons, List.length_nil, Nat.zero_add, Nat.reduceAdd, h2, if_true, bindS_ok, List.set_cons_succ, List.set_cons_zero])]
  have hk := refused2 (C := C) (C2 := C2) hrb (m := m10) (c0 := c0) (c1 := some (.val (.obj 0))) (c2 := some (.val (d))) (c3 := some (.val (.str W.row))) (c4 := some (.val (.tup (encB W.bars)))) (c5 := some (.val (.tup (W.rules.map encR)))) (c6 := some (.val (.int far))) (c7 := some (.val (.int (n3 : Nat)))) (c9 := some (.val (.lst (oddR far)))) (c10 := none) (c11 := some (.val (.lst [.fn 0 (C.L 0), .fn 1 (C.L 1)]))) (c13 := none) (c14 := none)
  have n4 := told_ne2 (z := [114, 117, 108, 101, 115]) rfl (k := n3) (m := grown (grown m10))
  refine ⟨(ρ ++ [.ins "Shelf" []]) ++ [.ins "Shelf" []], grown (grown m10), ?_, by
    have gg := (g10.more (x := .ins "Shelf" [])).more (x := .ins "Shelf" [])
    exact gg⟩
  rw [seq_nx (r1 := [c0, some (.val (.obj 0)), some (.val (d)), some (.val (.str W.row)), some (.val (.tup (encB W.bars))), some (.val (.tup (W.rules.map encR))), some (.val (.int far)), some (.val (.int (n3 : Nat))), some (.val (.tup ((W.rules.map encR).take n3 ++ [y] ++ (W.rules.map encR).drop n3))), some (.val (.lst (oddR far))), none, some (.val (.lst [.fn 0 (C.L 0), .fn 1 (C.L 1)])), none, none, none]) (m1 := grown (grown m10)) (by
    have q1 : ∀ m : Sto, opMul (.lst [.tup [.str [114, 117, 108, 101, 115], .int (n3 : Nat)]]) (.int 2) m = .ok (.lst [told [114, 117, 108, 101, 115] n3, told [114, 117, 108, 101, 115] n3]) m := fun m => told_mul2
    simp only [ev_ifS, ev_B, ev_bin, ev_Lc, ev_It, ev_var, List.getElem?_cons_succ, List.getElem?_cons_zero, bindR_ok, itD_l, ofO, List.length_cons, List.length_nil, Nat.zero_add, Nat.reduceAdd, h2, true_and]
    rw [if_pos (by simp)]
    simp only [wipeE_cons, wipeE_nil, List.set_cons_succ, List.set_cons_zero]
    rw [hk]
    simp only [bindR_ok, ev_lst, ev_tup, ev_c, ev_var, ev_cons, ev_nil, List.getElem?_cons_succ, List.getElem?_cons_zero, List.length_cons, List.length_nil, Nat.zero_add, Nat.reduceAdd, h1, h2, if_true, q1, n4, bindS_ok, Bool.false_eq_true, if_false, ev_skip, Bool.not_true])]
  rfl
theorem loop01 [C : LamC] [C2 : Lam2C] {c0 : Option Cell} : ∀ (l : List D) (ρ m : Sto), Good (.tab C.P C.q :: .tab C2.P C2.q :: ρ) m →
    ∃ ρ' m', forL g_law4 b_law3 l [c0, some (.val (.obj 0)), none, none, none, none, none, none, none, none, none, none, none, none, none] m = .nx [c0, some (.val (.obj 0)), none, none, none, none, none, none, none, none, none, none, none, none, none] m' ∧ Good (.tab C.P C.q :: .tab C2.P C2.q :: ρ') m'
  | [], ρ, m, hm => ⟨ρ, m, rfl, hm⟩
  | d :: l, ρ, m, hm => by
    obtain ⟨ρ1, m1, e, g1⟩ := turn01 (c0 := c0) d m hm
    obtain ⟨ρ2, m2, e2, g2⟩ := loop01 l ρ1 m1 g1
    refine ⟨ρ2, m2, ?_, g2⟩
    rw [forL_step (r' := [c0, some (.val (.obj 0)), some (.val (d)), none, none, none, none, none, none, none, none, none, none, none, none]) rfl e]
    exact e2
def six : D := .tup [.tup [.str [97], .str [98], .int 1, .int 1, .str [99]], .tup [.str [97], .str [98], .int 1, .int 1, .str [99]], .tup [.str [97], .str [98], .int 1, .int 1, .str [99]], .tup [.str [97], .str [98], .int 1, .int 1, .str [99]], .tup [.str [97], .str [98], .int 1, .int 1, .str [99]], .tup [.str [97], .str [98], .int 1, .int 1, .str [99]]]
def w13 : D := .tup [.str [97, 97, 97, 97, 97, 97, 97, 97, 97, 97, 97, 97, 97], .tup [], six]
def w0 : D := .tup [.str [], .tup [.int 9], six]
def w12 : D := .tup [.str [97, 97, 97, 97, 97, 97, 97, 97, 97, 97, 97, 97], .tup [.int 0, .int 1, .int 2, .int 3, .int 4, .int 5, .int 6, .int 7, .int 8, .int 9, .int 10], six]
theorem w13_bad : Refused w13 0 12 := refused_row fun m => rfl
theorem w0_bad : Refused w0 0 0 := refused_row fun m => rfl
theorem w12_bad : Refused w12 2 5 := refused_rules (fun m => rfl) (fun m => rfl) fun m => rfl
def wAB : D := .tup [.str [97, 98, 97, 98, 97, 98, 97, 98, 97, 98, 97, 98], .tup [.int 0, .int 1, .int 2, .int 3, .int 4, .int 5, .int 6, .int 7, .int 8, .int 9, .int 10], .tup [.tup [.str [97], .str [98], .int 1, .int 1, .str [99]], .tup [.str [97], .str [98], .int 1, .int 1, .str [99]], .tup [.str [97], .str [98], .int 1, .int 1, .str [99]], .tup [.str [97], .str [98], .int 1, .int 1, .str [99]], .tup [.str [97], .str [98], .int 1, .int 1, .str [99]]]]
theorem ab_beats (m : Sto) : f_beats [wAB, .int 2] m = .ok (.lst [.str [97, 98, 97, 98, 97, 98, 97, 98, 97, 98, 97, 98], .str [97, 98, 97, 98, 97, 98, 97, 98, 97, 98, 97, 98]]) m := rfl

theorem law_ok : LawOkT2 n_law 3 (fun C C2 => @b_law C C2) := by
  intro C C2 a ns hns
  have g0 := good_start (ρ := [.tab C.P C.q, .tab C2.P C2.q]) (s := mixS ns 3) hns
  generalize (MObj.drw (mixS ns 3) ns 0 :: [.tab C.P C.q, .tab C2.P C2.q] : Sto) = m0 at g0
  obtain ⟨ρ', m1, el, g1⟩ := loop01 (c0 := some (.val (.cst (.ref a)))) (rangeL 0 6) [] m0 g0
  refine ⟨m1, ?_⟩
  show @b_law C C2 [some (.val (.cst (.ref a))), some (.val (.obj 0)), none, none, none, none, none, none, none, none, none, none, none, none, none] m0 = _
  unfold b_law
  have hi : inR 6 = true := decide_eq_true (by omega)
  rw [seq_nx (r1 := [some (.val (.cst (.ref a))), some (.val (.obj 0)), none, none, none, none, none, none, none, none, none, none, none, none, none]) (m1 := m1) (by
    rw [ev_for, ev_Rg (i := 6) (m' := m0) (by simp), if_pos hi, bindS_ok]
    exact el)]
  rw [seq_nx (r1 := [some (.val (.cst (.ref a))), some (.val (.obj 0)), none, none, none, none, none, none, none, none, none, none, none, some (.val (six)), none]) (m1 := m1) (by rfl)]

  have t2 := (Good.tab2 g1).2
  have x1 : f__law_refusals [w13] m1 = .ok (.lst ((List.range 11).map fun _ => told [114, 111, 119] 12)) m1 := refusals_ok w13_bad rfl t2
  have x2 : f__law_refusals [w0] m1 = .ok (.lst ((List.range 11).map fun _ => told [114, 111, 119] 0)) m1 := refusals_ok w0_bad rfl t2
  have x3 : f__law_refusals [w12] m1 = .ok (.lst ((List.range 11).map fun _ => told [114, 117, 108, 101, 115] 5)) m1 := refusals_ok w12_bad rfl t2
  have y1 : (sCall (callF 1 f__law_refusals) (aCons (sTup (aCons (sBin opMul (sC (.str [97])) (sC (.int 13))) (aCons (sTup (aNil)) (aCons (sVar 13) (aNil))))) (aNil))) [some (.val (.cst (.ref a))), some (.val (.obj 0)), none, none, none, none, none, none, none, none, none, none, none, some (.val (six)), none] m1 = .ok (.lst ((List.range 11).map fun _ => told [114, 111, 119] 12)) m1 := x1
  have y2 : (sCall (callF 1 f__law_refusals) (aCons (sTup (aCons (sC (.str [])) (aCons (sTup (aCons (sC (.int 9)) (aNil))) (aCons (sVar 13) (aNil))))) (aNil))) [some (.val (.cst (.ref a))), some (.val (.obj 0)), none, none, none, none, none, none, none, none, none, none, none, some (.val (six)), none] m1 = .ok (.lst ((List.range 11).map fun _ => told [114, 111, 119] 0)) m1 := x2
  have y3 : (sCall (callF 1 f__law_refusals) (aCons (sTup (aCons (sBin opMul (sC (.str [97])) (sC (.int 12))) (aCons (sTupRg (sC (.int 11))) (aCons (sVar 13) (aNil))))) (aNil))) [some (.val (.cst (.ref a))), some (.val (.obj 0)), none, none, none, none, none, none, none, none, none, none, none, some (.val (six)), some (.lst [.lst ((List.range 11).map fun _ => told [114, 111, 119] 12), .lst ((List.range 11).map fun _ => told [114, 111, 119] 0)])] m1 = .ok (.lst ((List.range 11).map fun _ => told [114, 117, 108, 101, 115] 5)) m1 := x3
  have y4 : (sCall (callF 2 f_beats) (aCons (sTup (aCons (sBin opMul (sC (.str [97, 98])) (sC (.int 6))) (aCons (sTupRg (sC (.int 11))) (aCons (sSl (sPk 13) (oNone) (oSome (sC (.int 5)))) (aNil))))) (aCons (sC (.int 2)) (aNil)))) [some (.val (.cst (.ref a))), some (.val (.obj 0)), none, none, none, none, none, none, none, none, none, none, none, some (.val (six)), some (.lst [.lst ((List.range 11).map fun _ => told [114, 111, 119] 12), .lst ((List.range 11).map fun _ => told [114, 111, 119] 0), .lst ((List.range 11).map fun _ => told [114, 117, 108, 101, 115] 5)])] m1 = .ok (.lst [.str [97, 98, 97, 98, 97, 98, 97, 98, 97, 98, 97, 98], .str [97, 98, 97, 98, 97, 98, 97, 98, 97, 98, 97, 98]]) m1 := ab_beats m1
  have h2 : (2 : Nat) ≤ LIM := by decide
  have hl2 : (2 : Nat) < LIM := by decide
  rw [seq_nx (r1 := [some (.val (.cst (.ref a))), some (.val (.obj 0)), none, none, none, none, none, none, none, none, none, none, none, some (.val (six)), some (.lst [.lst ((List.range 11).map fun _ => told [114, 111, 119] 12), .lst ((List.range 11).map fun _ => told [114, 111, 119] 0)])]) (m1 := m1) (by
    simp only [ev_set, ev_cL, ev_cons, y1, y2, ev_nil, bindR_ok, List.length_cons, List.length_nil, Nat.zero_add, Nat.reduceAdd, h2, if_true, bindS_ok, List.set_cons_succ, List.set_cons_zero])]
  rw [seq_nx (r1 := [some (.val (.cst (.ref a))), some (.val (.obj 0)), none, none, none, none, none, none, none, none, none, none, none, some (.val (six)), some (.lst [.lst ((List.range 11).map fun _ => told [114, 111, 119] 12), .lst ((List.range 11).map fun _ => told [114, 111, 119] 0), .lst ((List.range 11).map fun _ => told [114, 117, 108, 101, 115] 5)])]) (m1 := m1) (by
    simp only [ev_app, List.getElem?_cons_succ, List.getElem?_cons_zero, y3, bindS_ok, List.length_cons, List.length_nil, Nat.zero_add, Nat.reduceAdd, hl2, if_true, List.set_cons_succ, List.set_cons_zero, List.cons_append, List.nil_append])]
  rw [seq_nx (r1 := [some (.val (.cst (.ref a))), some (.val (.obj 0)), none, none, none, none, none, none, none, none, none, none, none, some (.val (six)), some (.lst [.lst ((List.range 11).map fun _ => told [114, 111, 119] 12), .lst ((List.range 11).map fun _ => told [114, 111, 119] 0), .lst ((List.range 11).map fun _ => told [114, 117, 108, 101, 115] 5)])]) (m1 := m1) (by rfl)]
  simp only [ev_ret, ev_bin, y4, bindR_ok]
  rfl
end Dl
namespace Dl
open PySem PySem.Spec PyProof.Rows L2 TL
def iniS : Stmt → Stmt
  | .ClassDef _ _ _ b _ _ _ _ _ _ _ => b.getD 0 (.Pass ⟨0, 0, 0, 0⟩)
  | s => s
def top (i : Nat) : Stmt := PySem.Challenge.pw_sourrow_k01_worlds_refused.main.body.getD i (.Pass ⟨0, 0, 0, 0⟩)
abbrev ini (i : Nat) : Stmt := iniS (top i)
def clsS (j : Nat) : Stmt → Stmt
  | .ClassDef _ _ _ b _ _ _ _ _ _ _ => b.getD j (.Pass ⟨0, 0, 0, 0⟩)
  | s => s
abbrev s_need_row : Stmt := top 18
abbrev s_need_bars : Stmt := top 19
abbrev s_is_kind : Stmt := top 17
abbrev s_is_rule : Stmt := top 20
abbrev s_need_rules : Stmt := top 21
abbrev s_need_world : Stmt := top 22
abbrev s_begun : Stmt := top 26
abbrev s_beside : Stmt := top 23
abbrev s_counted : Stmt := top 24
abbrev s_turned : Stmt := top 25
abbrev s_beat_of : Stmt := top 27
abbrev s_beats : Stmt := top 32
abbrev s_Shelf___init__ : Stmt := clsS 0 (top 56)
abbrev s_again : Stmt := top 58
abbrev s__law_next : Stmt := top 68
abbrev s__law_rules : Stmt := top 69
abbrev s__law_world : Stmt := top 70
abbrev s_walk : Stmt := top 33
abbrev s_period : Stmt := top 34
abbrev s_after : Stmt := top 35
abbrev s_turns : Stmt := top 36
abbrev s_often : Stmt := top 37
abbrev s_need_kept : Stmt := top 39
abbrev s_first_turn : Stmt := top 40
abbrev s_breaks : Stmt := top 41
abbrev s_choices : Stmt := top 42
abbrev s_fewest_bars : Stmt := top 43
abbrev s_fewest_jars : Stmt := top 44
abbrev s_written : Stmt := top 48
abbrev s_next_kind : Stmt := top 61
abbrev s_side : Stmt := top 62
abbrev s_fits : Stmt := top 63
abbrev s_how_many : Stmt := top 64
abbrev s_sources : Stmt := top 65
abbrev s__law_kind : Stmt := top 71
abbrev s__law_refusals : Stmt := top 72
abbrev s__law_mix : Stmt := top 67
abbrev s_law : Stmt := top 73
/-- what the top has left -/
structure GT (K : PySem.W.Frag) (mg : Str → Option Value) (t : Tf) : Prop where
  d_need_row : DefIs K mg "need_row" s_need_row
  d_need_bars : DefIs K mg "need_bars" s_need_bars
  d_is_kind : DefIs K mg "is_kind" s_is_kind
  d_is_rule : DefIs K mg "is_rule" s_is_rule
  d_need_rules : DefIs K mg "need_rules" s_need_rules
  d_need_world : DefIs K mg "need_world" s_need_world
  d_begun : DefIs K mg "begun" s_begun
  d_beside : DefIs K mg "beside" s_beside
  d_counted : DefIs K mg "counted" s_counted
  d_turned : DefIs K mg "turned" s_turned
  d_beat_of : DefIs K mg "beat_of" s_beat_of
  d_beats : DefIs K mg "beats" s_beats
  mi_Shelf___init__ : MetIs K (t.T 10) "__init__" "Shelf.__init__" s_Shelf___init__
  d_again : DefIs K mg "again" s_again
  d__law_next : DefIs K mg "_law_next" s__law_next
  d__law_rules : DefIs K mg "_law_rules" s__law_rules
  d__law_world : DefIs K mg "_law_world" s__law_world
  d_walk : DefIs K mg "walk" s_walk
  d_period : DefIs K mg "period" s_period
  d_after : DefIs K mg "after" s_after
  d_turns : DefIs K mg "turns" s_turns
  d_often : DefIs K mg "often" s_often
  d_need_kept : DefIs K mg "need_kept" s_need_kept
  d_first_turn : DefIs K mg "first_turn" s_first_turn
  d_breaks : DefIs K mg "breaks" s_breaks
  d_choices : DefIs K mg "choices" s_choices
  d_fewest_bars : DefIs K mg "fewest_bars" s_fewest_bars
  d_fewest_jars : DefIs K mg "fewest_jars" s_fewest_jars
  d_written : DefIs K mg "written" s_written
  d_next_kind : DefIs K mg "next_kind" s_next_kind
  d_side : DefIs K mg "side" s_side
  d_fits : DefIs K mg "fits" s_fits
  d_how_many : DefIs K mg "how_many" s_how_many
  d_sources : DefIs K mg "sources" s_sources
  d__law_kind : DefIs K mg "_law_kind" s__law_kind
  d__law_refusals : DefIs K mg "_law_refusals" s__law_refusals
  d__law_mix : DefIs K mg "_law_mix" s__law_mix
  d_law : DefIs K mg "law" s_law
  mf_Shelf : MkF K mg "Shelf" (t.T 10)
  na_Shelf_counts : NoAttr K (t.T 10) "counts"
  na_Shelf_notes : NoAttr K (t.T 10) "notes"
  na_Shelf_row : NoAttr K (t.T 10) "row"
  na_Shelf_rules : NoAttr K (t.T 10) "rules"
  na_Shelf_walls : NoAttr K (t.T 10) "walls"
  g_BAR_notes : ∃ t, mg "BAR_notes" = some (.str "|" t)
  g_KINDS : ∃ t, mg "KINDS" = some (.str "abcde" t)
  g_MOST_BEATS : ∃ t, mg "MOST_BEATS" = some (.int 4 t)
  g_MOST_FAR : ∃ t, mg "MOST_FAR" = some (.int 1000000000000 t)
  g_MOST_JARS : ∃ t, mg "MOST_JARS" = some (.int 12 t)
  g_MOST_NEAR : ∃ t, mg "MOST_NEAR" = some (.int 300 t)
  g_MOST_ROWS : ∃ t, mg "MOST_ROWS" = some (.int 2000 t)
  g_MOST_RULES : ∃ t, mg "MOST_RULES" = some (.int 5 t)
  g_MOST_STATES : ∃ t, mg "MOST_STATES" = some (.int 5000 t)
  g_RULE : ∃ t, mg "RULE" = some (.str "rule" t)
  z_ValueError : mg "ValueError" = none
  z_enumerate : mg "enumerate" = none
  z_int : mg "int" = none
  z_isinstance : mg "isinstance" = none
  z_len : mg "len" = none
  z_list : mg "list" = none
  z_max : mg "max" = none
  z_min : mg "min" = none
  z_range : mg "range" = none
  z_sorted : mg "sorted" = none
  z_str : mg "str" = none
  z_sum : mg "sum" = none
  z_tuple : mg "tuple" = none
  z_zip : mg "zip" = none
  c_BadRow : ClsF K mg "BadRow" (t.T 0)
  c_BadBars : ClsF K mg "BadBars" (t.T 1)
  c_BadRules : ClsF K mg "BadRules" (t.T 2)
  c_BadCount : ClsF K mg "BadCount" (t.T 3)
  c_BadKept : ClsF K mg "BadKept" (t.T 4)
  c_TooMany : ClsF K mg "TooMany" (t.T 5)
  c_NoJar : ClsF K mg "NoJar" (t.T 6)
  c_BadDeed : ClsF K mg "BadDeed" (t.T 7)
  c_BadText : ClsF K mg "BadText" (t.T 8)
  c_RowError : ClsF K mg "RowError" (t.T 9)
  b_E : KwX.BaseC K mg "RowError" (t.T 9)
  oe_0 : OexC K (t.T 0)
  in_0 : InitIs K (t.T 0) "BadRow.__init__" (ini 3)
  no_0 : PySem.W.findIn K (.ref (t.T 0)) "place" = some none
  fl_0 : t.fld 0 = "place"
  e_0 : ExcC K (t.T 0)
  kv_0 : PySem.W.subIn K (.ref (t.T 0)) (.type "ValueError") = some true
  m_0 : PySem.W.exmOne K (.ref (t.T 0)) (.ref (t.T 9)) = some true
  kk_0_0 : PySem.W.subIn K (.ref (t.T 0)) (.ref (t.T 0)) = some true
  kk_0_1 : PySem.W.subIn K (.ref (t.T 0)) (.ref (t.T 1)) = some false
  kk_0_2 : PySem.W.subIn K (.ref (t.T 0)) (.ref (t.T 2)) = some false
  kk_0_3 : PySem.W.subIn K (.ref (t.T 0)) (.ref (t.T 3)) = some false
  kk_0_4 : PySem.W.subIn K (.ref (t.T 0)) (.ref (t.T 4)) = some false
  kk_0_5 : PySem.W.subIn K (.ref (t.T 0)) (.ref (t.T 5)) = some false
  kk_0_6 : PySem.W.subIn K (.ref (t.T 0)) (.ref (t.T 6)) = some false
  kk_0_7 : PySem.W.subIn K (.ref (t.T 0)) (.ref (t.T 7)) = some false
  kk_0_8 : PySem.W.subIn K (.ref (t.T 0)) (.ref (t.T 8)) = some false
  oe_1 : OexC K (t.T 1)
  in_1 : InitIs K (t.T 1) "BadBars.__init__" (ini 4)
  no_1 : PySem.W.findIn K (.ref (t.T 1)) "number" = some none
  fl_1 : t.fld 1 = "number"
  e_1 : ExcC K (t.T 1)
  kv_1 : PySem.W.subIn K (.ref (t.T 1)) (.type "ValueError") = some true
  m_1 : PySem.W.exmOne K (.ref (t.T 1)) (.ref (t.T 9)) = some true
  kk_1_0 : PySem.W.subIn K (.ref (t.T 1)) (.ref (t.T 0)) = some false
  kk_1_1 : PySem.W.subIn K (.ref (t.T 1)) (.ref (t.T 1)) = some true
  kk_1_2 : PySem.W.subIn K (.ref (t.T 1)) (.ref (t.T 2)) = some false
  kk_1_3 : PySem.W.subIn K (.ref (t.T 1)) (.ref (t.T 3)) = some false
  kk_1_4 : PySem.W.subIn K (.ref (t.T 1)) (.ref (t.T 4)) = some false
  kk_1_5 : PySem.W.subIn K (.ref (t.T 1)) (.ref (t.T 5)) = some false
  kk_1_6 : PySem.W.subIn K (.ref (t.T 1)) (.ref (t.T 6)) = some false
  kk_1_7 : PySem.W.subIn K (.ref (t.T 1)) (.ref (t.T 7)) = some false
  kk_1_8 : PySem.W.subIn K (.ref (t.T 1)) (.ref (t.T 8)) = some false
  oe_2 : OexC K (t.T 2)
  in_2 : InitIs K (t.T 2) "BadRules.__init__" (ini 5)
  no_2 : PySem.W.findIn K (.ref (t.T 2)) "number" = some none
  fl_2 : t.fld 2 = "number"
  e_2 : ExcC K (t.T 2)
  kv_2 : PySem.W.subIn K (.ref (t.T 2)) (.type "ValueError") = some true
  m_2 : PySem.W.exmOne K (.ref (t.T 2)) (.ref (t.T 9)) = some true
  kk_2_0 : PySem.W.subIn K (.ref (t.T 2)) (.ref (t.T 0)) = some false
  kk_2_1 : PySem.W.subIn K (.ref (t.T 2)) (.ref (t.T 1)) = some false
  kk_2_2 : PySem.W.subIn K (.ref (t.T 2)) (.ref (t.T 2)) = some true
  kk_2_3 : PySem.W.subIn K (.ref (t.T 2)) (.ref (t.T 3)) = some false
  kk_2_4 : PySem.W.subIn K (.ref (t.T 2)) (.ref (t.T 4)) = some false
  kk_2_5 : PySem.W.subIn K (.ref (t.T 2)) (.ref (t.T 5)) = some false
  kk_2_6 : PySem.W.subIn K (.ref (t.T 2)) (.ref (t.T 6)) = some false
  kk_2_7 : PySem.W.subIn K (.ref (t.T 2)) (.ref (t.T 7)) = some false
  kk_2_8 : PySem.W.subIn K (.ref (t.T 2)) (.ref (t.T 8)) = some false
  x_BadCount : ExcK K mg "BadCount" (t.T 3)
  e_3 : ExcC K (t.T 3)
  kv_3 : PySem.W.subIn K (.ref (t.T 3)) (.type "ValueError") = some true
  m_3 : PySem.W.exmOne K (.ref (t.T 3)) (.ref (t.T 9)) = some true
  kk_3_0 : PySem.W.subIn K (.ref (t.T 3)) (.ref (t.T 0)) = some false
  kk_3_1 : PySem.W.subIn K (.ref (t.T 3)) (.ref (t.T 1)) = some false
  kk_3_2 : PySem.W.subIn K (.ref (t.T 3)) (.ref (t.T 2)) = some false
  kk_3_3 : PySem.W.subIn K (.ref (t.T 3)) (.ref (t.T 3)) = some true
  kk_3_4 : PySem.W.subIn K (.ref (t.T 3)) (.ref (t.T 4)) = some false
  kk_3_5 : PySem.W.subIn K (.ref (t.T 3)) (.ref (t.T 5)) = some false
  kk_3_6 : PySem.W.subIn K (.ref (t.T 3)) (.ref (t.T 6)) = some false
  kk_3_7 : PySem.W.subIn K (.ref (t.T 3)) (.ref (t.T 7)) = some false
  kk_3_8 : PySem.W.subIn K (.ref (t.T 3)) (.ref (t.T 8)) = some false
  oe_4 : OexC K (t.T 4)
  in_4 : InitIs K (t.T 4) "BadKept.__init__" (ini 7)
  no_4 : PySem.W.findIn K (.ref (t.T 4)) "number" = some none
  fl_4 : t.fld 4 = "number"
  e_4 : ExcC K (t.T 4)
  kv_4 : PySem.W.subIn K (.ref (t.T 4)) (.type "ValueError") = some true
  m_4 : PySem.W.exmOne K (.ref (t.T 4)) (.ref (t.T 9)) = some true
  kk_4_0 : PySem.W.subIn K (.ref (t.T 4)) (.ref (t.T 0)) = some false
  kk_4_1 : PySem.W.subIn K (.ref (t.T 4)) (.ref (t.T 1)) = some false
  kk_4_2 : PySem.W.subIn K (.ref (t.T 4)) (.ref (t.T 2)) = some false
  kk_4_3 : PySem.W.subIn K (.ref (t.T 4)) (.ref (t.T 3)) = some false
  kk_4_4 : PySem.W.subIn K (.ref (t.T 4)) (.ref (t.T 4)) = some true
  kk_4_5 : PySem.W.subIn K (.ref (t.T 4)) (.ref (t.T 5)) = some false
  kk_4_6 : PySem.W.subIn K (.ref (t.T 4)) (.ref (t.T 6)) = some false
  kk_4_7 : PySem.W.subIn K (.ref (t.T 4)) (.ref (t.T 7)) = some false
  kk_4_8 : PySem.W.subIn K (.ref (t.T 4)) (.ref (t.T 8)) = some false
  x_TooMany : ExcK K mg "TooMany" (t.T 5)
  e_5 : ExcC K (t.T 5)
  kv_5 : PySem.W.subIn K (.ref (t.T 5)) (.type "ValueError") = some true
  m_5 : PySem.W.exmOne K (.ref (t.T 5)) (.ref (t.T 9)) = some true
  kk_5_0 : PySem.W.subIn K (.ref (t.T 5)) (.ref (t.T 0)) = some false
  kk_5_1 : PySem.W.subIn K (.ref (t.T 5)) (.ref (t.T 1)) = some false
  kk_5_2 : PySem.W.subIn K (.ref (t.T 5)) (.ref (t.T 2)) = some false
  kk_5_3 : PySem.W.subIn K (.ref (t.T 5)) (.ref (t.T 3)) = some false
  kk_5_4 : PySem.W.subIn K (.ref (t.T 5)) (.ref (t.T 4)) = some false
  kk_5_5 : PySem.W.subIn K (.ref (t.T 5)) (.ref (t.T 5)) = some true
  kk_5_6 : PySem.W.subIn K (.ref (t.T 5)) (.ref (t.T 6)) = some false
  kk_5_7 : PySem.W.subIn K (.ref (t.T 5)) (.ref (t.T 7)) = some false
  kk_5_8 : PySem.W.subIn K (.ref (t.T 5)) (.ref (t.T 8)) = some false
section
variable {P : Program} {w : World} {K : PySem.W.Frag} {mg : Str → Option Value} {base : Heap} {t : Tf}
theorem er_0 (T : GT K mg t) : ErrOk P w K mg base t 0 "BadRow" "place" :=
  ErrOk.of (N := ["self", "place"]) T.c_BadRow.g T.oe_0 T.fl_0 T.in_0 T.no_0 ⟨rfl, rfl, rfl, by decide +kernel, rfl, by decide +kernel, by decide +kernel⟩ rfl (fun _ _ _ _ _ _ _ _ => rfl) fun fI cdv A outer s H E =>
    pss_cons (ps_expr (KwX.pe_baseInit T.b_E (by rfl) (pa_cons (pv 0) (pa_cons (pv 1) pa_nil)))) (pss_one (ps_ost (pv 0) (pv 1)))
theorem er_1 (T : GT K mg t) : ErrOk P w K mg base t 1 "BadBars" "number" :=
  ErrOk.of (N := ["self", "number"]) T.c_BadBars.g T.oe_1 T.fl_1 T.in_1 T.no_1 ⟨rfl, rfl, rfl, by decide +kernel, rfl, by decide +kernel, by decide +kernel⟩ rfl (fun _ _ _ _ _ _ _ _ => rfl) fun fI cdv A outer s H E =>
    pss_cons (ps_expr (KwX.pe_baseInit T.b_E (by rfl) (pa_cons (pv 0) (pa_cons (pv 1) pa_nil)))) (pss_one (ps_ost (pv 0) (pv 1)))
theorem er_2 (T : GT K mg t) : ErrOk P w K mg base t 2 "BadRules" "number" :=
  ErrOk.of (N := ["self", "number"]) T.c_BadRules.g T.oe_2 T.fl_2 T.in_2 T.no_2 ⟨rfl, rfl, rfl, by decide +kernel, rfl, by decide +kernel, by decide +kernel⟩ rfl (fun _ _ _ _ _ _ _ _ => rfl) fun fI cdv A outer s H E =>
    pss_cons (ps_expr (KwX.pe_baseInit T.b_E (by rfl) (pa_cons (pv 0) (pa_cons (pv 1) pa_nil)))) (pss_one (ps_ost (pv 0) (pv 1)))
theorem er_4 (T : GT K mg t) : ErrOk P w K mg base t 4 "BadKept" "number" :=
  ErrOk.of (N := ["self", "number"]) T.c_BadKept.g T.oe_4 T.fl_4 T.in_4 T.no_4 ⟨rfl, rfl, rfl, by decide +kernel, rfl, by decide +kernel, by decide +kernel⟩ rfl (fun _ _ _ _ _ _ _ _ => rfl) fun fI cdv A outer s H E =>
    pss_cons (ps_expr (KwX.pe_baseInit T.b_E (by rfl) (pa_cons (pv 0) (pa_cons (pv 1) pa_nil)))) (pss_one (ps_ost (pv 0) (pv 1)))
theorem sc_need_row : FnScope n_need_row ["row"] (defScope s_need_row) := ⟨rfl, rfl, rfl, by decide +kernel, rfl, by decide +kernel, by decide +kernel⟩
theorem c_need_row (T : GT K mg t) : Cal P w K mg base 3 "need_row" 1 t f_need_row :=
  Cal.of (k := 2) T.d_need_row sc_need_row (fun _ _ _ _ _ _ us hl => match us, hl with | [_], _ => rfl) fun f cdv A outer s H E hr =>
    dss_cons (ds_for (passes_of rfl) rfl (di_en (by rfl) T.z_enumerate (da_cons (de_var (pv 0)) (da_nil))) (dg_tup rfl (dgs_cons (dg_name (i := 1) sc_need_row.nd rfl (by first | exact Or.inl rfl | exact Or.inr rfl)) (dgs_cons (dg_name (i := 2) sc_need_row.nd rfl (by first | exact Or.inl rfl | exact Or.inr rfl)) (dgs_nil))) (tk_cons (tk_cons (tk_nil)))) (dss_cons (ds_if (dt_w (dw_or (dt_eq hr.units (dk_var (pv 1)) ((de_gintE (by rfl) T.g_MOST_JARS).k)) (dw_or1 (dt_nin (dk_var (pv 2)) ((de_gstrE [97, 98, 99, 100, 101] (by rfl) T.g_KINDS).k))))) (dss_one (ds_raiseF (t := t) (c := 0) rfl (takes_of rfl rfl rfl rfl) rfl (er_0 T) (hr.mono (by decide)) (by rfl) (de_var (pv 1)))) (dss_nil)) (dss_forget 1 (dss_forget 2 (dss_nil))))) (dss_one (ds_if (dt_eq hr.units (dk_var (pv 0)) ((de_str []).k)) (dss_one (ds_raiseF (t := t) (c := 0) rfl (takes_of rfl rfl rfl rfl) rfl (er_0 T) (hr.mono (by decide)) (by rfl) (de_int))) (dss_nil)))
theorem sc_need_bars : FnScope n_need_bars ["row", "bars"] (defScope s_need_bars) := ⟨rfl, rfl, rfl, by decide +kernel, rfl, by decide +kernel, by decide +kernel⟩
theorem c_need_bars (T : GT K mg t) : Cal P w K mg base 3 "need_bars" 2 t f_need_bars :=
  Cal.of (k := 2) T.d_need_bars sc_need_bars (fun _ _ _ _ _ _ us hl => match us, hl with | [_, _], _ => rfl) fun f cdv A outer s H E hr =>
    dss_one (ds_for (passes_of rfl) rfl (di_en (by rfl) T.z_enumerate (da_cons (de_var (pv 1)) (da_nil))) (dg_tup rfl (dgs_cons (dg_name (i := 2) sc_need_bars.nd rfl (by first | exact Or.inl rfl | exact Or.inr rfl)) (dgs_cons (dg_name (i := 3) sc_need_bars.nd rfl (by first | exact Or.inl rfl | exact Or.inr rfl)) (dgs_nil))) (tk_cons (tk_cons (tk_nil)))) (dss_cons (ds_if (dt_w (dw_or (dt_not (dt_lelt ((de_int).k) (dk_var (pv 3)) ((de_sub ((de_len (by rfl) T.z_len (dk_var (pv 0))).k) ((de_int).k)).k))) (dw_or1 (dt_w (dw_and (dt_gt (dk_var (pv 2)) ((de_int).k)) (dw_and1 (dt_le (dk_var (pv 3)) ((de_ix (dk_var (pv 1)) ((de_sub (dk_var (pv 2)) ((de_int).k)).k)).k)))))))) (dss_one (ds_raiseF (t := t) (c := 1) rfl (takes_of rfl rfl rfl rfl) rfl (er_1 T) (hr.mono (by decide)) (by rfl) (de_var (pv 2)))) (dss_nil)) (dss_forget 2 (dss_forget 3 (dss_nil)))))
theorem sc_is_kind : FnScope n_is_kind ["sign"] (defScope s_is_kind) := ⟨rfl, rfl, rfl, by decide +kernel, rfl, by decide +kernel, by decide +kernel⟩
theorem c_is_kind (T : GT K mg t) : Cal P w K mg base 1 "is_kind" 1 t f_is_kind :=
  Cal.of (k := 0) T.d_is_kind sc_is_kind (fun _ _ _ _ _ _ us hl => match us, hl with | [_], _ => rfl) fun f cdv A outer s H E hr =>
    dss_one (ds_ret (de_and (de_eq hr.units ((de_len (by rfl) T.z_len (dk_var (pv 0))).k) ((de_int).k)) (de_one (de_in (dk_var (pv 0)) ((de_gstrE [97, 98, 99, 100, 101] (by rfl) T.g_KINDS).k)))))
theorem sc_is_rule : FnScope n_is_rule ["rule"] (defScope s_is_rule) := ⟨rfl, rfl, rfl, by decide +kernel, rfl, by decide +kernel, by decide +kernel⟩
theorem c_is_rule (T : GT K mg t) : Cal P w K mg base 2 "is_rule" 1 t f_is_rule :=
  Cal.of (k := 1) T.d_is_rule sc_is_rule (fun _ _ _ _ _ _ us hl => match us, hl with | [_], _ => rfl) fun f cdv A outer s H E hr =>
    dss_cons (ds_if (dt_w (dw_or (dt_ne hr.units ((de_len (by rfl) T.z_len (dk_var (pv 0))).k) ((de_int).k)) (dw_or (dt_not (dt_val (de_callC (c_is_kind T) (hr.mono (by decide)) (by rfl) (takes_of rfl rfl rfl rfl) (da_cons (de_ix (dk_var (pv 0)) ((de_int).k)) (da_nil))))) (dw_or (dt_not (dt_val (de_callC (c_is_kind T) (hr.mono (by decide)) (by rfl) (takes_of rfl rfl rfl rfl) (da_cons (de_ix (dk_var (pv 0)) ((de_int).k)) (da_nil))))) (dw_or1 (dt_not (dt_val (de_callC (c_is_kind T) (hr.mono (by decide)) (by rfl) (takes_of rfl rfl rfl rfl) (da_cons (de_ix (dk_var (pv 0)) ((de_int).k)) (da_nil)))))))))) (dss_one (ds_ret (de_bl))) (dss_nil)) (dss_one (ds_ret (de_and (de_ne hr.units ((de_ix (dk_var (pv 0)) ((de_int).k)).k) ((de_ix (dk_var (pv 0)) ((de_int).k)).k)) (de_and (de_lele ((de_int).k) ((de_ix (dk_var (pv 0)) ((de_int).k)).k) ((de_int).k)) (de_one (de_lele ((de_int).k) ((de_ix (dk_var (pv 0)) ((de_int).k)).k) ((de_gintE (by rfl) T.g_MOST_BEATS).k)))))))
theorem sc_need_rules : FnScope n_need_rules ["rules"] (defScope s_need_rules) := ⟨rfl, rfl, rfl, by decide +kernel, rfl, by decide +kernel, by decide +kernel⟩
theorem c_need_rules (T : GT K mg t) : Cal P w K mg base 3 "need_rules" 1 t f_need_rules :=
  Cal.of (k := 2) T.d_need_rules sc_need_rules (fun _ _ _ _ _ _ us hl => match us, hl with | [_], _ => rfl) fun f cdv A outer s H E hr =>
    dss_one (ds_for (passes_of rfl) rfl (di_en (by rfl) T.z_enumerate (da_cons (de_var (pv 0)) (da_nil))) (dg_tup rfl (dgs_cons (dg_name (i := 1) sc_need_rules.nd rfl (by first | exact Or.inl rfl | exact Or.inr rfl)) (dgs_cons (dg_name (i := 2) sc_need_rules.nd rfl (by first | exact Or.inl rfl | exact Or.inr rfl)) (dgs_nil))) (tk_cons (tk_cons (tk_nil)))) (dss_cons (ds_if (dt_w (dw_or (dt_eq hr.units (dk_var (pv 1)) ((de_gintE (by rfl) T.g_MOST_RULES).k)) (dw_or1 (dt_not (dt_val (de_callC (c_is_rule T) (hr.mono (by decide)) (by rfl) (takes_of rfl rfl rfl rfl) (da_cons (de_var (pv 2)) (da_nil)))))))) (dss_one (ds_raiseF (t := t) (c := 2) rfl (takes_of rfl rfl rfl rfl) rfl (er_2 T) (hr.mono (by decide)) (by rfl) (de_var (pv 1)))) (dss_nil)) (dss_forget 1 (dss_forget 2 (dss_nil)))))
theorem sc_need_world : FnScope n_need_world ["world"] (defScope s_need_world) := ⟨rfl, rfl, rfl, by decide +kernel, rfl, by decide +kernel, by decide +kernel⟩
theorem c_need_world (T : GT K mg t) : Cal P w K mg base 4 "need_world" 1 t f_need_world :=
  Cal.of (k := 3) T.d_need_world sc_need_world (fun _ _ _ _ _ _ us hl => match us, hl with | [_], _ => rfl) fun f cdv A outer s H E hr =>
    dss_cons (ds_asg (de_var (pv 0)) (dg_tup rfl (dgs_cons (dg_name (i := 1) sc_need_world.nd rfl (by first | exact Or.inl rfl | exact Or.inr rfl)) (dgs_cons (dg_name (i := 2) sc_need_world.nd rfl (by first | exact Or.inl rfl | exact Or.inr rfl)) (dgs_cons (dg_name (i := 3) sc_need_world.nd rfl (by first | exact Or.inl rfl | exact Or.inr rfl)) (dgs_nil)))) (tk_cons (tk_cons (tk_cons (tk_nil)))))) (dss_cons (ds_expr (de_callC (c_need_row T) (hr.mono (by decide)) (by rfl) (takes_of rfl rfl rfl rfl) (da_cons (de_var (pv 1)) (da_nil)))) (dss_cons (ds_expr (de_callC (c_need_bars T) (hr.mono (by decide)) (by rfl) (takes_of rfl rfl rfl rfl) (da_cons (de_var (pv 1)) (da_cons (de_var (pv 2)) (da_nil))))) (dss_one (ds_expr (de_callC (c_need_rules T) (hr.mono (by decide)) (by rfl) (takes_of rfl rfl rfl rfl) (da_cons (de_var (pv 3)) (da_nil)))))))
theorem sc_begun : FnScope n_begun ["row", "rules"] (defScope s_begun) := ⟨rfl, rfl, rfl, by decide +kernel, rfl, by decide +kernel, by decide +kernel⟩
theorem c_begun (T : GT K mg t) : Cal P w K mg base 1 "begun" 2 t f_begun :=
  Cal.of (k := 0) T.d_begun sc_begun (fun _ _ _ _ _ _ us hl => match us, hl with | [_, _], _ => rfl) fun f cdv A outer s H E hr =>
    dss_one (ds_ret (de_tuple (by rfl) T.z_tuple ((de_lc [("kind", 2)] rfl sc_begun.nd (di_any (de_var (pv 0))) (blkOk_by (N := n_begun) (sc := defScope s_begun) (by decide +kernel)) (fun _ _ _ _ _ => dg_name (i := 2) sc_begun.nd rfl (by first | exact Or.inl rfl | exact Or.inr rfl)) (fun _ _ _ _ _ => dts_nil) (fun _ _ _ _ _ => de_mul ((de_tup (da_cons (de_int) (da_nil))).k) ((de_len (by rfl) T.z_len (dk_var (pv 1))).k))).k)))
theorem sc_beside : FnScope n_beside ["row", "bars", "place"] (defScope s_beside) := ⟨rfl, rfl, rfl, by decide +kernel, rfl, by decide +kernel, by decide +kernel⟩
theorem c_beside (T : GT K mg t) : Cal P w K mg base 1 "beside" 3 t f_beside :=
  Cal.of (k := 0) T.d_beside sc_beside (fun _ _ _ _ _ _ us hl => match us, hl with | [_, _, _], _ => rfl) fun f cdv A outer s H E hr =>
    dss_cons (ds_set (i := 3) sc_beside.nd rfl (by first | exact Or.inl rfl | exact Or.inr rfl) (dc_own (da_nil))) (dss_cons (ds_if (dt_w (dw_and (dt_gt (dk_var (pv 2)) ((de_int).k)) (dw_and1 (dt_nin ((de_sub (dk_var (pv 2)) ((de_int).k)).k) (dk_var (pv 1)))))) (dss_one (ds_appD (i := 3) (pv 3) (de_ix (dk_var (pv 0)) ((de_sub (dk_var (pv 2)) ((de_int).k)).k)))) (dss_nil)) (dss_cons (ds_if (dt_w (dw_and (dt_lt (dk_var (pv 2)) ((de_sub ((de_len (by rfl) T.z_len (dk_var (pv 0))).k) ((de_int).k)).k)) (dw_and1 (dt_nin (dk_var (pv 2)) (dk_var (pv 1)))))) (dss_one (ds_appD (i := 3) (pv 3) (de_ix (dk_var (pv 0)) ((de_add (dk_var (pv 2)) ((de_int).k)).k)))) (dss_nil)) (dss_freeze 3 (dss_one (ds_ret (de_var (pv 3)))))))
theorem sc_counted : FnScope n_counted ["row", "bars", "rules", "counts"] (defScope s_counted) := ⟨rfl, rfl, rfl, by decide +kernel, rfl, by decide +kernel, by decide +kernel⟩
theorem c_counted (T : GT K mg t) : Cal P w K mg base 2 "counted" 4 t f_counted :=
  Cal.of (k := 1) T.d_counted sc_counted (fun _ _ _ _ _ _ us hl => match us, hl with | [_, _, _, _], _ => rfl) fun f cdv A outer s H E hr =>
    dss_cons (ds_set (i := 4) sc_counted.nd rfl (by first | exact Or.inl rfl | exact Or.inr rfl) (dc_own (da_nil))) (dss_cons (ds_for (passes_of rfl) rfl (di_en (by rfl) T.z_enumerate (da_cons (de_var (pv 0)) (da_nil))) (dg_tup rfl (dgs_cons (dg_name (i := 5) sc_counted.nd rfl (by first | exact Or.inl rfl | exact Or.inr rfl)) (dgs_cons (dg_name (i := 6) sc_counted.nd rfl (by first | exact Or.inl rfl | exact Or.inr rfl)) (dgs_nil))) (tk_cons (tk_cons (tk_nil)))) (dss_cons (ds_set (i := 7) sc_counted.nd rfl (by first | exact Or.inl rfl | exact Or.inr rfl) (dc_val (de_callC (c_beside T) (hr.mono (by decide)) (by rfl) (takes_of rfl rfl rfl rfl) (da_cons (de_var (pv 0)) (da_cons (de_var (pv 1)) (da_cons (de_var (pv 5)) (da_nil))))))) (dss_cons (ds_set (i := 8) sc_counted.nd rfl (by first | exact Or.inl rfl | exact Or.inr rfl) (dc_own (da_nil))) (dss_cons (ds_for (passes_of rfl) rfl (di_zip (by rfl) T.z_zip (da_cons (de_var (pv 2)) (da_cons (de_ix (dk_var (pv 3)) (dk_var (pv 5))) (da_nil)))) (dg_tup rfl (dgs_cons (dg_name (i := 9) sc_counted.nd rfl (by first | exact Or.inl rfl | exact Or.inr rfl)) (dgs_cons (dg_name (i := 10) sc_counted.nd rfl (by first | exact Or.inl rfl | exact Or.inr rfl)) (dgs_nil))) (tk_cons (tk_cons (tk_nil)))) (dss_cons (ds_set (i := 11) sc_counted.nd rfl (by first | exact Or.inl rfl | exact Or.inr rfl) (dc_val (de_and (de_eq hr.units ((de_ix (dk_var (pv 9)) ((de_int).k)).k) (dk_var (pv 6))) (de_one (de_ge ((de_cnt (dk_var (pv 7)) ((de_ix (dk_var (pv 9)) ((de_int).k)).k)).k) ((de_ix (dk_var (pv 9)) ((de_int).k)).k)))))) (dss_cons (ds_appD (i := 8) (pv 8) (de_if (dt_val (de_var (pv 11))) (de_min rfl (by rfl) T.z_min ((de_ix (dk_var (pv 9)) ((de_int).k)).k) ((de_add (dk_var (pv 10)) ((de_int).k)).k)) (de_int))) (dss_forget 9 (dss_forget 10 (dss_forget 11 (dss_nil))))))) (dss_cons (ds_appD (i := 4) (pv 4) (de_tuple (by rfl) T.z_tuple (dk_var (pv 8)))) (dss_forget 5 (dss_forget 6 (dss_forget 7 (dss_forget 8 (dss_forget 9 (dss_forget 10 (dss_forget 11 (dss_nil))))))))))))) (dss_freeze 4 (dss_one (ds_ret (de_var (pv 4))))))
theorem sc_turned : FnScope n_turned ["row", "rules", "counts"] (defScope s_turned) := ⟨rfl, rfl, rfl, by decide +kernel, rfl, by decide +kernel, by decide +kernel⟩
theorem c_turned (T : GT K mg t) : Cal P w K mg base 1 "turned" 3 t f_turned :=
  Cal.of (k := 0) T.d_turned sc_turned (fun _ _ _ _ _ _ us hl => match us, hl with | [_, _, _], _ => rfl) fun f cdv A outer s H E hr =>
    dss_cons (ds_par (i := 3) (j := 4) rfl sc_turned.nd rfl rfl (by decide) rfl rfl (dc_own (da_nil)) (dc_own (da_nil)) (by rfl)) (dss_cons (ds_for (passes_of rfl) rfl (di_zip (by rfl) T.z_zip (da_cons (de_var (pv 0)) (da_cons (de_var (pv 2)) (da_nil)))) (dg_tup rfl (dgs_cons (dg_name (i := 5) sc_turned.nd rfl (by first | exact Or.inl rfl | exact Or.inr rfl)) (dgs_cons (dg_name (i := 6) sc_turned.nd rfl (by first | exact Or.inl rfl | exact Or.inr rfl)) (dgs_nil))) (tk_cons (tk_cons (tk_nil)))) (dss_cons (ds_setLc (k := 7) [("rule", 8), ("count", 9)] rfl sc_turned.nd rfl rfl (sw_true rfl rfl rfl (by decide +kernel)) (di_zip (by rfl) T.z_zip (da_cons (de_var (pv 1)) (da_cons (de_var (pv 6)) (da_nil)))) (blkOk_by (N := n_turned) (sc := defScope s_turned) (by decide +kernel)) (fun _ _ _ _ _ => dg_tup rfl (dgs_cons (dg_name (i := 8) sc_turned.nd rfl (by first | exact Or.inl rfl | exact Or.inr rfl)) (dgs_cons (dg_name (i := 9) sc_turned.nd rfl (by first | exact Or.inl rfl | exact Or.inr rfl)) (dgs_nil))) (tk_cons (tk_cons (tk_nil)))) (fun _ _ _ _ _ => dts_one (dt_eq hr.units (dk_var (pv 9)) ((de_ix (dk_var (pv 8)) ((de_int).k)).k))) (fun _ _ _ _ _ => de_ix (dk_var (pv 8)) ((de_int).k))) (dss_cons (ds_appD (i := 3) (pv 3) (de_if (dt_ne hr.units (dk_var (pv 7)) ((de_lst (da_nil)).k)) (de_ix (dk_var (pv 7)) ((de_int).k)) (de_var (pv 5)))) (dss_cons (ds_appD (i := 4) (pv 4) (de_if (dt_ne hr.units (dk_var (pv 7)) ((de_lst (da_nil)).k)) (de_mul ((de_tup (da_cons (de_int) (da_nil))).k) ((de_len (by rfl) T.z_len (dk_var (pv 1))).k)) (de_var (pv 6)))) (dss_forget 5 (dss_forget 6 (dss_forget 7 (dss_nil)))))))) (dss_one (ds_ret (de_tup (da_cons (de_join ((de_str []).k) (dk_var (pv 3))) (da_cons (de_tuple (by rfl) T.z_tuple (dk_var (pv 4))) (da_nil)))))))
theorem sc_beat_of : FnScope n_beat_of ["world", "row", "counts"] (defScope s_beat_of) := ⟨rfl, rfl, rfl, by decide +kernel, rfl, by decide +kernel, by decide +kernel⟩
theorem c_beat_of (T : GT K mg t) : Cal P w K mg base 3 "beat_of" 3 t f_beat_of :=
  Cal.of (k := 2) T.d_beat_of sc_beat_of (fun _ _ _ _ _ _ us hl => match us, hl with | [_, _, _], _ => rfl) fun f cdv A outer s H E hr =>
    dss_one (ds_ret (de_callC (c_turned T) (hr.mono (by decide)) (by rfl) (takes_of rfl rfl rfl rfl) (da_cons (de_var (pv 1)) (da_cons (de_ix (dk_var (pv 0)) ((de_int).k)) (da_cons (de_callC (c_counted T) (hr.mono (by decide)) (by rfl) (takes_of rfl rfl rfl rfl) (da_cons (de_var (pv 1)) (da_cons (de_ix (dk_var (pv 0)) ((de_int).k)) (da_cons (de_ix (dk_var (pv 0)) ((de_int).k)) (da_cons (de_var (pv 2)) (da_nil)))))) (da_nil))))))
theorem sc_beats : FnScope n_beats ["world", "many"] (defScope s_beats) := ⟨rfl, rfl, rfl, by decide +kernel, rfl, by decide +kernel, by decide +kernel⟩
theorem c_beats (T : GT K mg t) : Cal P w K mg base 5 "beats" 2 t f_beats :=
  Cal.of (k := 4) T.d_beats sc_beats (fun _ _ _ _ _ _ us hl => match us, hl with | [_, _], _ => rfl) fun f cdv A outer s H E hr =>
    dss_cons (ds_expr (de_callC (c_need_world T) (hr.mono (by decide)) (by rfl) (takes_of rfl rfl rfl rfl) (da_cons (de_var (pv 0)) (da_nil)))) (dss_cons (ds_if (dt_not (dt_lele ((de_int).k) (dk_var (pv 1)) ((de_gintE (by rfl) T.g_MOST_NEAR).k))) (dss_one (ds_raise0 (c := 3) rfl (takes_of rfl rfl rfl rfl) T.x_BadCount rfl (by rfl))) (dss_nil)) (dss_cons (ds_par (i := 2) (j := 3) rfl sc_beats.nd rfl rfl (by decide) rfl rfl (dc_val (de_ix (dk_var (pv 0)) ((de_int).k))) (dc_val (de_callC (c_begun T) (hr.mono (by decide)) (by rfl) (takes_of rfl rfl rfl rfl) (da_cons (de_ix (dk_var (pv 0)) ((de_int).k)) (da_cons (de_ix (dk_var (pv 0)) ((de_int).k)) (da_nil))))) (by rfl)) (dss_cons (ds_set (i := 4) sc_beats.nd rfl (by first | exact Or.inl rfl | exact Or.inr rfl) (dc_own (da_nil))) (dss_cons (ds_for (passes_of rfl) rfl (di_range (by rfl) T.z_range (da_cons (de_var (pv 1)) (da_nil))) (dg_name (i := 5) sc_beats.nd rfl (by first | exact Or.inl rfl | exact Or.inr rfl)) (dss_cons (ds_appD (i := 4) (pv 4) (de_var (pv 2))) (dss_cons (ds_asg (de_callC (c_beat_of T) (hr.mono (by decide)) (by rfl) (takes_of rfl rfl rfl rfl) (da_cons (de_var (pv 0)) (da_cons (de_var (pv 2)) (da_cons (de_var (pv 3)) (da_nil))))) (dg_tup rfl (dgs_cons (dg_name (i := 2) sc_beats.nd rfl (by first | exact Or.inl rfl | exact Or.inr rfl)) (dgs_cons (dg_name (i := 3) sc_beats.nd rfl (by first | exact Or.inl rfl | exact Or.inr rfl)) (dgs_nil))) (tk_cons (tk_cons (tk_nil))))) (dss_forget 5 (dss_nil))))) (dss_freeze 4 (dss_one (ds_ret (de_var (pv 4)))))))))
theorem sc_Shelf___init__ : FnScope n_Shelf___init__ ["self", "rules"] (defScope s_Shelf___init__) := ⟨rfl, rfl, rfl, by decide +kernel, rfl, by decide +kernel, by decide +kernel⟩
theorem c_Shelf___init__ (T : GT K mg t) : Maker P w K mg base 4 "Shelf" 2 t f_Shelf___init__ :=
  Maker.of (k := 3) T.mf_Shelf T.mi_Shelf___init__ sc_Shelf___init__ (fun _ _ _ _ _ _ us hl => match us, hl with | [_, _], _ => rfl) fun f cdv A outer s H E hr =>
    dss_cons (ds_expr (de_callC (c_need_rules T) (hr.mono (by decide)) (by rfl) (takes_of rfl rfl rfl rfl) (da_cons (de_var (pv 1)) (da_nil)))) (dss_cons (ds_setF T.mf_Shelf.s T.na_Shelf_rules (pv 0) (dc_val (de_tuple (by rfl) T.z_tuple ((de_lc [("rule", 2)] rfl sc_Shelf___init__.nd (di_any (de_var (pv 1))) (blkOk_by (N := n_Shelf___init__) (sc := defScope s_Shelf___init__) (by decide +kernel)) (fun _ _ _ _ _ => dg_name (i := 2) sc_Shelf___init__.nd rfl (by first | exact Or.inl rfl | exact Or.inr rfl)) (fun _ _ _ _ _ => dts_nil) (fun _ _ _ _ _ => de_tuple (by rfl) T.z_tuple (dk_var (pv 2)))).k)))) (dss_cons (ds_setF T.mf_Shelf.s T.na_Shelf_row (pv 0) (dc_val (de_str []))) (dss_cons (ds_setF T.mf_Shelf.s T.na_Shelf_counts (pv 0) (dc_val (de_tup (da_nil)))) (dss_cons (ds_setF T.mf_Shelf.s T.na_Shelf_walls (pv 0) (dc_own (da_nil))) (dss_one (ds_setF T.mf_Shelf.s T.na_Shelf_notes (pv 0) (dc_own (da_nil))))))))
theorem sc_again : FnScope n_again ["rules", "deeds"] (defScope s_again) := ⟨rfl, rfl, rfl, by decide +kernel, rfl, by decide +kernel, by decide +kernel⟩
theorem c_again (T : GT K mg t) : Cal P w K mg base 6 "again" 2 t f_again :=
  Cal.of (k := 5) T.d_again sc_again (fun _ _ _ _ _ _ us hl => match us, hl with | [_, _], _ => rfl) fun f cdv A outer s H E hr =>
    dss_cons (ds_set (i := 2) sc_again.nd rfl (by first | exact Or.inl rfl | exact Or.inr rfl) (dc_val (de_make (c_Shelf___init__ T) (hr.mono (by decide)) (takes_of rfl rfl rfl rfl) (by rfl) (da_cons (de_var (pv 0)) (da_nil))))) (dss_cons (ds_for (passes_of rfl) rfl (di_en (by rfl) T.z_enumerate (da_cons (de_var (pv 1)) (da_nil))) (dg_tup rfl (dgs_cons (dg_name (i := 3) sc_again.nd rfl (by first | exact Or.inl rfl | exact Or.inr rfl)) (dgs_cons (dg_name (i := 4) sc_again.nd rfl (by first | exact Or.inl rfl | exact Or.inr rfl)) (dgs_nil))) (tk_cons (tk_cons (tk_nil)))) (dss_cons (ds_never) (dss_cons (ds_never) (dss_forget 3 (dss_forget 4 (dss_nil)))))) (dss_one (ds_ret (de_var (pv 2)))))
def n__law_next : List Str := ["_law_h", "_law_many", "_law_cell"]
theorem sc__law_next : FnScope n__law_next ["_law_h", "_law_many"] (defScope s__law_next) := ⟨rfl, rfl, rfl, by decide +kernel, rfl, by decide +kernel, by decide +kernel⟩
theorem c__law_next (T : GT K mg t) : Cal P w K mg base 1 "_law_next" 2 t f__law_next :=
  Cal.raw (k := 0) (tt := t_next K) T.d__law_next sc__law_next (fun _ _ _ _ _ _ us hl => match us, hl with | [_, _], _ => rfl) (fun f cdv A outer s H E hr =>
    pss_cons (ps_set (i := 2) sc__law_next.nd rfl (Or.inl rfl) (pe_ix ix_list (pe_op op_cat (pe_ix ix_list (pv 0) pe_int (fun _ _ => rfl)) (pe_lst (pa_cons pe_int pa_nil))) (pe_op op_mod (pe_ix ix_list (pv 0) pe_int (fun _ _ => rfl)) (pe_callB (call_max2 rfl) (by rfl) T.z_max PyProof.Rows.boot_max (pa_cons pe_int (pa_cons (pe_callB call_len (by rfl) T.z_len PySem.boot_len (pa_cons (pe_ix ix_list (pv 0) pe_int (fun _ _ => rfl)) pa_nil)) pa_nil)))) (fun _ _ => rfl)))
    (pss_cons (ps_if (pt_cmpR op_ge (pv 2) (pe_op op_pow pe_int pe_int) (nomark _)) (pss_cons (ps_asg (pe_op op_fdivW (pv 2) (pv 1)) (pg_sub (pe_ix ix_list (pv 0) pe_int (fun _ _ => rfl)) (pe_op op_mod (pe_ix ix_list (pv 0) pe_int (fun _ _ => rfl)) (pe_callB call_len (by rfl) T.z_len PySem.boot_len (pa_cons (pe_ix ix_list (pv 0) pe_int (fun _ _ => rfl)) pa_nil))) set_list)) (pss_one (ps_ret (pe_op op_mod (pv 2) (pv 1))))) pss_nil)
    (pss_cons (ps_asg (pe_op op_mod (pe_op op_add (pe_op op_add (pe_op op_mul (pe_ix ix_list (pv 0) pe_int (fun _ _ => rfl)) pe_int) (pe_op op_mul (pv 2) pe_int)) pe_int) pe_int) (pg_sub (pv 0) pe_int set_list))
    (pss_cons (ps_asg (pe_op op_add (pe_ix ix_list (pv 0) pe_int (fun _ _ => rfl)) pe_int) (pg_sub (pv 0) pe_int set_list))
    (pss_one (ps_ret (pe_op op_mod (pe_op op_fdivW (pe_ix ix_list (pv 0) pe_int (fun _ _ => rfl)) pe_int) (pv 1)))))))) fun vs H Q E h => pure_next _ rfl vs H Q E h
theorem sc__law_rules : FnScope n__law_rules ["_law_h", "_law_kinds", "_law_many"] (defScope s__law_rules) := ⟨rfl, rfl, rfl, by decide +kernel, rfl, by decide +kernel, by decide +kernel⟩
theorem c__law_rules (T : GT K mg t) : Cal P w K mg base 2 "_law_rules" 3 t f__law_rules :=
  Cal.of (k := 1) T.d__law_rules sc__law_rules (fun _ _ _ _ _ _ us hl => match us, hl with | [_, _, _], _ => rfl) fun f cdv A outer s H E hr =>
    dss_cons (ds_set (i := 3) sc__law_rules.nd rfl (by first | exact Or.inl rfl | exact Or.inr rfl) (dc_own (da_nil))) (dss_cons (ds_for (passes_of rfl) rfl (di_range (by rfl) T.z_range (da_cons (de_callC (c__law_next T) (hr.mono (by decide)) (by rfl) (takes_of rfl rfl rfl rfl) (da_cons (de_var (pv 0)) (da_cons (de_add (dk_var (pv 2)) ((de_int).k)) (da_nil)))) (da_nil))) (dg_name (i := 4) sc__law_rules.nd rfl (by first | exact Or.inl rfl | exact Or.inr rfl)) (dss_strike (L := [97, 98, 99, 100, 101]) (i := 5) (j := 6) (l := 7) (by decide +kernel) (by decide +kernel) (by decide +kernel) (by decide) rfl sc__law_rules.nd rfl rfl rfl (by decide) rfl rfl rfl (fun _ _ => rfl) (fun _ _ => rfl) ((de_callC (c__law_next T) (hr.mono (by decide)) (by rfl) (takes_of rfl rfl rfl rfl) (da_cons (de_var (pv 0)) (da_cons (de_var (pv 1)) (da_nil)))).k) (de_ix ((de_str [97, 98, 99, 100, 101]).k) ((de_callC (c__law_next T) (hr.mono (by decide)) (by rfl) (takes_of rfl rfl rfl rfl) (da_cons (de_var (pv 0)) (da_cons (de_var (pv 1)) (da_nil)))).k)) ((de_callC (c__law_next T) (hr.mono (by decide)) (by rfl) (takes_of rfl rfl rfl rfl) (da_cons (de_var (pv 0)) (da_cons (de_max rfl (by rfl) T.z_max ((de_int).k) ((de_sub (dk_var (pv 1)) ((de_int).k)).k)) (da_nil)))).k) (dss_cons (ds_appD (i := 3) (pv 3) (de_tup (da_cons (de_var (pv 5)) (da_cons (de_var (pv 6)) (da_cons (de_add ((de_int).k) ((de_div ((de_callC (c__law_next T) (hr.mono (by decide)) (by rfl) (takes_of rfl rfl rfl rfl) (da_cons (de_var (pv 0)) (da_cons (de_int) (da_nil)))).k) ((de_int).k)).k)) (da_cons (de_add ((de_int).k) ((de_mul ((de_callC (c__law_next T) (hr.mono (by decide)) (by rfl) (takes_of rfl rfl rfl rfl) (da_cons (de_var (pv 0)) (da_cons (de_int) (da_nil)))).k) ((de_callC (c__law_next T) (hr.mono (by decide)) (by rfl) (takes_of rfl rfl rfl rfl) (da_cons (de_var (pv 0)) (da_cons (de_int) (da_nil)))).k)).k)) (da_cons (de_var (pv 7)) (da_nil)))))))) (dss_forget 4 (dss_forget 5 (dss_forget 6 (dss_forget 7 (dss_nil)))))) (by rfl))) (dss_one (ds_ret (de_tuple (by rfl) T.z_tuple (dk_var (pv 3))))))
theorem sc__law_world : FnScope n__law_world ["_law_h", "_law_jars", "_law_kinds", "_law_many"] (defScope s__law_world) := ⟨rfl, rfl, rfl, by decide +kernel, rfl, by decide +kernel, by decide +kernel⟩
theorem c__law_world (T : GT K mg t) : Cal P w K mg base 3 "_law_world" 4 t f__law_world :=
  Cal.of (k := 2) T.d__law_world sc__law_world (fun _ _ _ _ _ _ us hl => match us, hl with | [_, _, _, _], _ => rfl) fun f cdv A outer s H E hr =>
    dss_cons (ds_set (i := 4) sc__law_world.nd rfl (by first | exact Or.inl rfl | exact Or.inr rfl) (dc_val (de_join ((de_str []).k) ((de_lc [("_law_k", 5)] rfl sc__law_world.nd (di_range (by rfl) T.z_range (da_cons (de_add ((de_int).k) ((de_callC (c__law_next T) (hr.mono (by decide)) (by rfl) (takes_of rfl rfl rfl rfl) (da_cons (de_var (pv 0)) (da_cons (de_var (pv 1)) (da_nil)))).k)) (da_nil))) (blkOk_by (N := n__law_world) (sc := defScope s__law_world) (by decide +kernel)) (fun _ _ _ _ _ => dg_name (i := 5) sc__law_world.nd rfl (by first | exact Or.inl rfl | exact Or.inr rfl)) (fun _ _ _ _ _ => dts_nil) (fun _ _ _ _ _ => de_ix ((de_str [97, 98, 99, 100, 101]).k) ((de_callC (c__law_next T) (hr.mono (by decide)) (by rfl) takes0 (da_cons (de_var (pv 0)) (da_cons (de_var (pv 2)) (da_nil)))).k))).k)))) (dss_cons (ds_set (i := 6) sc__law_world.nd rfl (by first | exact Or.inl rfl | exact Or.inr rfl) (dc_val (de_tuple (by rfl) T.z_tuple ((de_lc [("_law_gap", 7)] rfl sc__law_world.nd (di_range (by rfl) T.z_range (da_cons (de_sub ((de_len (by rfl) T.z_len (dk_var (pv 4))).k) ((de_int).k)) (da_nil))) (blkOk_by (N := n__law_world) (sc := defScope s__law_world) (by decide +kernel)) (fun _ _ _ _ _ => dg_name (i := 7) sc__law_world.nd rfl (by first | exact Or.inl rfl | exact Or.inr rfl)) (fun _ _ _ _ _ => dts_one (dt_eq hr.units ((de_callC (c__law_next T) (hr.mono (by decide)) (by rfl) takes0 (da_cons (de_var (pv 0)) (da_cons (de_int) (da_nil)))).k) ((de_int).k))) (fun _ _ _ _ _ => de_var (pv 7))).k)))) (dss_one (ds_ret (de_tup (da_cons (de_var (pv 4)) (da_cons (de_var (pv 6)) (da_cons (de_callC (c__law_rules T) (hr.mono (by decide)) (by rfl) (takes_of rfl rfl rfl rfl) (da_cons (de_var (pv 0)) (da_cons (de_var (pv 2)) (da_cons (de_var (pv 3)) (da_nil))))) (da_nil))))))))
theorem sc_walk : FnScope n_walk ["world"] (defScope s_walk) := ⟨rfl, rfl, rfl, by decide +kernel, rfl, by decide +kernel, by decide +kernel⟩
theorem c_walk (T : GT K mg t) : Cal P w K mg base 4 "walk" 1 t f_walk :=
  Cal.of (k := 3) T.d_walk sc_walk (fun _ _ _ _ _ _ us hl => match us, hl with | [_], _ => rfl) fun f cdv A outer s H E hr =>
    dss_cons (ds_set (i := 1) sc_walk.nd rfl (by first | exact Or.inl rfl | exact Or.inr rfl) (dc_val (de_tup (da_cons (de_ix (dk_var (pv 0)) ((de_int).k)) (da_cons (de_callC (c_begun T) (hr.mono (by decide)) (by rfl) (takes_of rfl rfl rfl rfl) (da_cons (de_ix (dk_var (pv 0)) ((de_int).k)) (da_cons (de_ix (dk_var (pv 0)) ((de_int).k)) (da_nil)))) (da_nil)))))) (dss_cons (ds_par (i := 2) (j := 3) rfl sc_walk.nd rfl rfl (by decide) rfl rfl (dc_own (da_nil)) (dc_dct) (by rfl)) (dss_cons (ds_while 100000 (passes_of rfl) (dt_ninN hr.units (dk_var (pv 1)) (dk_var (pv 3))) (dss_cons (ds_if (dt_eq hr.units ((de_len (by rfl) T.z_len (dk_var (pv 2))).k) ((de_gintE (by rfl) T.g_MOST_STATES).k)) (dss_one (ds_raise0 (c := 5) rfl (takes_of rfl rfl rfl rfl) T.x_TooMany rfl (by rfl))) (dss_nil)) (dss_cons (ds_putD (i := 3) hr.units (pv 3) (de_var (pv 1)) (de_len (by rfl) T.z_len (dk_var (pv 2)))) (dss_cons (ds_appD (i := 2) (pv 2) (de_ix (dk_var (pv 1)) ((de_int).k))) (dss_one (ds_set (i := 1) sc_walk.nd rfl (by first | exact Or.inl rfl | exact Or.inr rfl) (dc_val (de_callC (c_beat_of T) (hr.mono (by decide)) (by rfl) (takes_of rfl rfl rfl rfl) (da_cons (de_var (pv 0)) (da_cons (de_ix (dk_var (pv 1)) ((de_int).k)) (da_cons (de_ix (dk_var (pv 1)) ((de_int).k)) (da_nil)))))))))))) (dss_freeze 2 (dss_one (ds_ret (de_tup (da_cons (de_var (pv 2)) (da_cons (de_ixN hr.units (dk_var (pv 3)) (dk_var (pv 1))) (da_nil)))))))))
theorem sc_period : FnScope n_period ["world"] (defScope s_period) := ⟨rfl, rfl, rfl, by decide +kernel, rfl, by decide +kernel, by decide +kernel⟩
theorem c_period (T : GT K mg t) : Cal P w K mg base 5 "period" 1 t f_period :=
  Cal.of (k := 4) T.d_period sc_period (fun _ _ _ _ _ _ us hl => match us, hl with | [_], _ => rfl) fun f cdv A outer s H E hr =>
    dss_cons (ds_expr (de_callC (c_need_world T) (hr.mono (by decide)) (by rfl) (takes_of rfl rfl rfl rfl) (da_cons (de_var (pv 0)) (da_nil)))) (dss_cons (ds_asg (de_callC (c_walk T) (hr.mono (by decide)) (by rfl) (takes_of rfl rfl rfl rfl) (da_cons (de_var (pv 0)) (da_nil))) (dg_tup rfl (dgs_cons (dg_name (i := 1) sc_period.nd rfl (by first | exact Or.inl rfl | exact Or.inr rfl)) (dgs_cons (dg_name (i := 2) sc_period.nd rfl (by first | exact Or.inl rfl | exact Or.inr rfl)) (dgs_nil))) (tk_cons (tk_cons (tk_nil))))) (dss_one (ds_ret (de_tup (da_cons (de_var (pv 2)) (da_cons (de_sub ((de_len (by rfl) T.z_len (dk_var (pv 1))).k) (dk_var (pv 2))) (da_nil)))))))
theorem sc_after : FnScope n_after ["world", "many"] (defScope s_after) := ⟨rfl, rfl, rfl, by decide +kernel, rfl, by decide +kernel, by decide +kernel⟩
theorem c_after (T : GT K mg t) : Cal P w K mg base 5 "after" 2 t f_after :=
  Cal.of (k := 4) T.d_after sc_after (fun _ _ _ _ _ _ us hl => match us, hl with | [_, _], _ => rfl) fun f cdv A outer s H E hr =>
    dss_cons (ds_expr (de_callC (c_need_world T) (hr.mono (by decide)) (by rfl) (takes_of rfl rfl rfl rfl) (da_cons (de_var (pv 0)) (da_nil)))) (dss_cons (ds_if (dt_not (dt_lele ((de_int).k) (dk_var (pv 1)) ((de_gintE (by rfl) T.g_MOST_FAR).k))) (dss_one (ds_raise0 (c := 3) rfl (takes_of rfl rfl rfl rfl) T.x_BadCount rfl (by rfl))) (dss_nil)) (dss_cons (ds_asg (de_callC (c_walk T) (hr.mono (by decide)) (by rfl) (takes_of rfl rfl rfl rfl) (da_cons (de_var (pv 0)) (da_nil))) (dg_tup rfl (dgs_cons (dg_name (i := 2) sc_after.nd rfl (by first | exact Or.inl rfl | exact Or.inr rfl)) (dgs_cons (dg_name (i := 3) sc_after.nd rfl (by first | exact Or.inl rfl | exact Or.inr rfl)) (dgs_nil))) (tk_cons (tk_cons (tk_nil))))) (dss_one (ds_ret (de_if (dt_lt (dk_var (pv 1)) ((de_len (by rfl) T.z_len (dk_var (pv 2))).k)) (de_ix (dk_var (pv 2)) (dk_var (pv 1))) (de_ix (dk_var (pv 2)) ((de_add (dk_var (pv 3)) ((de_mod ((de_sub (dk_var (pv 1)) (dk_var (pv 3))).k) ((de_sub ((de_len (by rfl) T.z_len (dk_var (pv 2))).k) (dk_var (pv 3))).k)).k)).k)))))))
theorem sc_turns : FnScope n_turns ["world"] (defScope s_turns) := ⟨rfl, rfl, rfl, by decide +kernel, rfl, by decide +kernel, by decide +kernel⟩
theorem c_turns (T : GT K mg t) : Cal P w K mg base 5 "turns" 1 t f_turns :=
  Cal.of (k := 4) T.d_turns sc_turns (fun _ _ _ _ _ _ us hl => match us, hl with | [_], _ => rfl) fun f cdv A outer s H E hr =>
    dss_cons (ds_expr (de_callC (c_need_world T) (hr.mono (by decide)) (by rfl) (takes_of rfl rfl rfl rfl) (da_cons (de_var (pv 0)) (da_nil)))) (dss_cons (ds_asg (de_callC (c_walk T) (hr.mono (by decide)) (by rfl) (takes_of rfl rfl rfl rfl) (da_cons (de_var (pv 0)) (da_nil))) (dg_tup rfl (dgs_cons (dg_name (i := 1) sc_turns.nd rfl (by first | exact Or.inl rfl | exact Or.inr rfl)) (dgs_cons (dg_name (i := 2) sc_turns.nd rfl (by first | exact Or.inl rfl | exact Or.inr rfl)) (dgs_nil))) (tk_cons (tk_cons (tk_nil))))) (dss_cons (ds_set (i := 3) sc_turns.nd rfl (by first | exact Or.inl rfl | exact Or.inr rfl) (dc_own (da_nil))) (dss_cons (ds_for (passes_of rfl) rfl (di_en (by rfl) T.z_enumerate (da_cons (de_ix (dk_var (pv 0)) ((de_int).k)) (da_nil))) (dg_tup rfl (dgs_cons (dg_name (i := 4) sc_turns.nd rfl (by first | exact Or.inl rfl | exact Or.inr rfl)) (dgs_cons (dg_name (i := 5) sc_turns.nd rfl (by first | exact Or.inl rfl | exact Or.inr rfl)) (dgs_nil))) (tk_cons (tk_cons (tk_nil)))) (dss_cons (ds_setLc (k := 6) [("beat", 7), ("row", 8)] rfl sc_turns.nd rfl rfl (sw_true rfl rfl rfl (by decide +kernel)) (di_en (by rfl) T.z_enumerate (da_cons (de_var (pv 1)) (da_nil))) (blkOk_by (N := n_turns) (sc := defScope s_turns) (by decide +kernel)) (fun _ _ _ _ _ => dg_tup rfl (dgs_cons (dg_name (i := 7) sc_turns.nd rfl (by first | exact Or.inl rfl | exact Or.inr rfl)) (dgs_cons (dg_name (i := 8) sc_turns.nd rfl (by first | exact Or.inl rfl | exact Or.inr rfl)) (dgs_nil))) (tk_cons (tk_cons (tk_nil)))) (fun _ _ _ _ _ => dts_one (dt_ne hr.units ((de_ix (dk_var (pv 8)) (dk_var (pv 4))).k) (dk_var (pv 5)))) (fun _ _ _ _ _ => de_var (pv 7))) (dss_cons (ds_appD (i := 3) (pv 3) (de_if (dt_ne hr.units (dk_var (pv 6)) ((de_lst (da_nil)).k)) (de_ix (dk_var (pv 6)) ((de_int).k)) (de_non))) (dss_forget 4 (dss_forget 5 (dss_forget 6 (dss_nil))))))) (dss_freeze 3 (dss_one (ds_ret (de_var (pv 3))))))))
theorem sc_often : FnScope n_often ["world", "many"] (defScope s_often) := ⟨rfl, rfl, rfl, by decide +kernel, rfl, by decide +kernel, by decide +kernel⟩
theorem c_often (T : GT K mg t) : Cal P w K mg base 5 "often" 2 t f_often :=
  Cal.of (k := 4) T.d_often sc_often (fun _ _ _ _ _ _ us hl => match us, hl with | [_, _], _ => rfl) fun f cdv A outer s H E hr =>
    dss_cons (ds_expr (de_callC (c_need_world T) (hr.mono (by decide)) (by rfl) (takes_of rfl rfl rfl rfl) (da_cons (de_var (pv 0)) (da_nil)))) (dss_cons (ds_if (dt_not (dt_lele ((de_int).k) (dk_var (pv 1)) ((de_gintE (by rfl) T.g_MOST_FAR).k))) (dss_one (ds_raise0 (c := 3) rfl (takes_of rfl rfl rfl rfl) T.x_BadCount rfl (by rfl))) (dss_nil)) (dss_cons (ds_asg (de_callC (c_walk T) (hr.mono (by decide)) (by rfl) (takes_of rfl rfl rfl rfl) (da_cons (de_var (pv 0)) (da_nil))) (dg_tup rfl (dgs_cons (dg_name (i := 2) sc_often.nd rfl (by first | exact Or.inl rfl | exact Or.inr rfl)) (dgs_cons (dg_name (i := 3) sc_often.nd rfl (by first | exact Or.inl rfl | exact Or.inr rfl)) (dgs_nil))) (tk_cons (tk_cons (tk_nil))))) (dss_cons (ds_set (i := 2) sc_often.nd rfl (by first | exact Or.inl rfl | exact Or.inr rfl) (dc_val (de_add (dk_var (pv 2)) ((de_lst (da_cons (de_ix (dk_var (pv 2)) (dk_var (pv 3))) (da_nil))).k)))) (dss_cons (ds_set (i := 4) sc_often.nd rfl (by first | exact Or.inl rfl | exact Or.inr rfl) (dc_own (da_cons (de_mul ((de_lst (da_cons (de_int) (da_nil))).k) ((de_len (by rfl) T.z_len ((de_ix (dk_var (pv 0)) ((de_int).k)).k)).k)) (da_nil)))) (dss_cons (ds_for (passes_of rfl) rfl (di_zip (by rfl) T.z_zip (da_cons (de_var (pv 2)) (da_cons (de_sl (dk_var (pv 2)) (do_some ((de_int).k)) (do_none)) (da_nil)))) (dg_tup rfl (dgs_cons (dg_name (i := 5) sc_often.nd rfl (by first | exact Or.inl rfl | exact Or.inr rfl)) (dgs_cons (dg_name (i := 6) sc_often.nd rfl (by first | exact Or.inl rfl | exact Or.inr rfl)) (dgs_nil))) (tk_cons (tk_cons (tk_nil)))) (dss_cons (ds_appD (i := 4) (pv 4) (de_lc [("count", 7), ("one", 8), ("other", 9)] rfl sc_often.nd (di_zip3 (by rfl) T.z_zip (da_cons (de_ix (dk_var (pv 4)) ((de_neg (de_int)).k)) (da_cons (de_var (pv 5)) (da_cons (de_var (pv 6)) (da_nil))))) (blkOk_by (N := n_often) (sc := defScope s_often) (by decide +kernel)) (fun _ _ _ _ _ => dg_tup rfl (dgs_cons (dg_name (i := 7) sc_often.nd rfl (by first | exact Or.inl rfl | exact Or.inr rfl)) (dgs_cons (dg_name (i := 8) sc_often.nd rfl (by first | exact Or.inl rfl | exact Or.inr rfl)) (dgs_cons (dg_name (i := 9) sc_often.nd rfl (by first | exact Or.inl rfl | exact Or.inr rfl)) (dgs_nil)))) (tk_cons (tk_cons (tk_cons (tk_nil))))) (fun _ _ _ _ _ => dts_nil) (fun _ _ _ _ _ => de_add (dk_var (pv 7)) ((de_toInt (by rfl) T.z_int ((de_ne hr.units (dk_var (pv 8)) (dk_var (pv 9))).k)).k)))) (dss_forget 5 (dss_forget 6 (dss_nil))))) (dss_cons (ds_set (i := 10) sc_often.nd rfl (by first | exact Or.inl rfl | exact Or.inr rfl) (dc_val (de_sub ((de_sub ((de_len (by rfl) T.z_len (dk_var (pv 2))).k) ((de_int).k)).k) (dk_var (pv 3))))) (dss_cons (ds_set (i := 11) sc_often.nd rfl (by first | exact Or.inl rfl | exact Or.inr rfl) (dc_val (de_if (dt_lt (dk_var (pv 1)) ((de_len (by rfl) T.z_len (dk_var (pv 2))).k)) (de_var (pv 1)) (de_add (dk_var (pv 3)) ((de_mod ((de_sub (dk_var (pv 1)) (dk_var (pv 3))).k) (dk_var (pv 10))).k))))) (dss_cons (ds_set (i := 12) sc_often.nd rfl (by first | exact Or.inl rfl | exact Or.inr rfl) (dc_val (de_div ((de_sub (dk_var (pv 1)) (dk_var (pv 11))).k) (dk_var (pv 10))))) (dss_one (ds_ret (de_lc [("count", 7), ("end", 13), ("start", 14)] rfl sc_often.nd (di_zip3 (by rfl) T.z_zip (da_cons (de_ix (dk_var (pv 4)) (dk_var (pv 11))) (da_cons (de_ix (dk_var (pv 4)) ((de_neg (de_int)).k)) (da_cons (de_ix (dk_var (pv 4)) (dk_var (pv 3))) (da_nil))))) (blkOk_by (N := n_often) (sc := defScope s_often) (by decide +kernel)) (fun _ _ _ _ _ => dg_tup rfl (dgs_cons (dg_name (i := 7) sc_often.nd rfl (by first | exact Or.inl rfl | exact Or.inr rfl)) (dgs_cons (dg_name (i := 13) sc_often.nd rfl (by first | exact Or.inl rfl | exact Or.inr rfl)) (dgs_cons (dg_name (i := 14) sc_often.nd rfl (by first | exact Or.inl rfl | exact Or.inr rfl)) (dgs_nil)))) (tk_cons (tk_cons (tk_cons (tk_nil))))) (fun _ _ _ _ _ => dts_nil) (fun _ _ _ _ _ => de_add (dk_var (pv 7)) ((de_mul (dk_var (pv 12)) ((de_sub (dk_var (pv 13)) (dk_var (pv 14))).k)).k)))))))))))))
theorem sc_need_kept : FnScope n_need_kept ["row", "kept"] (defScope s_need_kept) := ⟨rfl, rfl, rfl, by decide +kernel, rfl, by decide +kernel, by decide +kernel⟩
theorem c_need_kept (T : GT K mg t) : Cal P w K mg base 3 "need_kept" 2 t f_need_kept :=
  Cal.of (k := 2) T.d_need_kept sc_need_kept (fun _ _ _ _ _ _ us hl => match us, hl with | [_, _], _ => rfl) fun f cdv A outer s H E hr =>
    dss_one (ds_for (passes_of rfl) rfl (di_en (by rfl) T.z_enumerate (da_cons (de_var (pv 1)) (da_nil))) (dg_tup rfl (dgs_cons (dg_name (i := 2) sc_need_kept.nd rfl (by first | exact Or.inl rfl | exact Or.inr rfl)) (dgs_cons (dg_name (i := 3) sc_need_kept.nd rfl (by first | exact Or.inl rfl | exact Or.inr rfl)) (dgs_nil))) (tk_cons (tk_cons (tk_nil)))) (dss_cons (ds_if (dt_w (dw_or (dt_not (dt_lelt ((de_int).k) (dk_var (pv 3)) ((de_len (by rfl) T.z_len (dk_var (pv 0))).k))) (dw_or1 (dt_w (dw_and (dt_gt (dk_var (pv 2)) ((de_int).k)) (dw_and1 (dt_le (dk_var (pv 3)) ((de_ix (dk_var (pv 1)) ((de_sub (dk_var (pv 2)) ((de_int).k)).k)).k)))))))) (dss_one (ds_raiseF (t := t) (c := 4) rfl (takes_of rfl rfl rfl rfl) rfl (er_4 T) (hr.mono (by decide)) (by rfl) (de_var (pv 2)))) (dss_nil)) (dss_forget 2 (dss_forget 3 (dss_nil)))))
theorem sc_first_turn : FnScope n_first_turn ["world", "kept"] (defScope s_first_turn) := ⟨rfl, rfl, rfl, by decide +kernel, rfl, by decide +kernel, by decide +kernel⟩
theorem c_first_turn (T : GT K mg t) : Cal P w K mg base 5 "first_turn" 2 t f_first_turn :=
  Cal.of (k := 4) T.d_first_turn sc_first_turn (fun _ _ _ _ _ _ us hl => match us, hl with | [_, _], _ => rfl) fun f cdv A outer s H E hr =>
    dss_cons (ds_asg (de_callC (c_walk T) (hr.mono (by decide)) (by rfl) (takes_of rfl rfl rfl rfl) (da_cons (de_var (pv 0)) (da_nil))) (dg_tup rfl (dgs_cons (dg_name (i := 2) sc_first_turn.nd rfl (by first | exact Or.inl rfl | exact Or.inr rfl)) (dgs_cons (dg_name (i := 3) sc_first_turn.nd rfl (by first | exact Or.inl rfl | exact Or.inr rfl)) (dgs_nil))) (tk_cons (tk_cons (tk_nil))))) (dss_cons (ds_for (passes_of rfl) rfl (di_en (by rfl) T.z_enumerate (da_cons (de_var (pv 2)) (da_nil))) (dg_tup rfl (dgs_cons (dg_name (i := 4) sc_first_turn.nd rfl (by first | exact Or.inl rfl | exact Or.inr rfl)) (dgs_cons (dg_name (i := 5) sc_first_turn.nd rfl (by first | exact Or.inl rfl | exact Or.inr rfl)) (dgs_nil))) (tk_cons (tk_cons (tk_nil)))) (dss_cons (ds_for (passes_of rfl) rfl (di_any (de_var (pv 1))) (dg_name (i := 6) sc_first_turn.nd rfl (by first | exact Or.inl rfl | exact Or.inr rfl)) (dss_cons (ds_if (dt_ne hr.units ((de_ix (dk_var (pv 5)) (dk_var (pv 6))).k) ((de_ix ((de_ix (dk_var (pv 0)) ((de_int).k)).k) (dk_var (pv 6))).k)) (dss_one (ds_ret (de_tup (da_cons (de_var (pv 4)) (da_cons (de_var (pv 6)) (da_nil)))))) (dss_nil)) (dss_forget 6 (dss_nil)))) (dss_forget 4 (dss_forget 5 (dss_forget 6 (dss_nil)))))) (dss_one (ds_ret (de_non))))
theorem sc_breaks : FnScope n_breaks ["world", "kept"] (defScope s_breaks) := ⟨rfl, rfl, rfl, by decide +kernel, rfl, by decide +kernel, by decide +kernel⟩
theorem c_breaks (T : GT K mg t) : Cal P w K mg base 6 "breaks" 2 t f_breaks :=
  Cal.of (k := 5) T.d_breaks sc_breaks (fun _ _ _ _ _ _ us hl => match us, hl with | [_, _], _ => rfl) fun f cdv A outer s H E hr =>
    dss_cons (ds_expr (de_callC (c_need_world T) (hr.mono (by decide)) (by rfl) (takes_of rfl rfl rfl rfl) (da_cons (de_var (pv 0)) (da_nil)))) (dss_cons (ds_expr (de_callC (c_need_kept T) (hr.mono (by decide)) (by rfl) (takes_of rfl rfl rfl rfl) (da_cons (de_ix (dk_var (pv 0)) ((de_int).k)) (da_cons (de_var (pv 1)) (da_nil))))) (dss_one (ds_ret (de_callC (c_first_turn T) (hr.mono (by decide)) (by rfl) (takes_of rfl rfl rfl rfl) (da_cons (de_var (pv 0)) (da_cons (de_var (pv 1)) (da_nil)))))))
theorem sc_choices : FnScope n_choices ["some", "many"] (defScope s_choices) := ⟨rfl, rfl, rfl, by decide +kernel, rfl, by decide +kernel, by decide +kernel⟩
theorem c_choices (T : GT K mg t) : Cal P w K mg base 8 "choices" 2 t f_choices :=
  Cal.recur (j := 0) (Cal.mono (Cal.none T.d_choices (ps := ["some", "many"]) (fun _ _ _ _ _ _ us hl => match us, hl with | [_, _], _ => rfl)) (Nat.zero_le _)) (fun k φ hk C0 => Cal.of T.d_choices sc_choices (fun _ _ _ _ _ _ us hl => match us, hl with | [_, _], _ => rfl) fun f cdv A outer s H E hr0 => by
    have hr := hr0.mono hk
    exact dss_cons (ds_if (dt_eq hr.units (dk_var (pv 1)) ((de_int).k)) (dss_one (ds_ret (de_lst (da_cons (de_tup (da_nil)) (da_nil))))) (dss_nil)) (dss_cons (ds_set (i := 2) sc_choices.nd rfl (by first | exact Or.inl rfl | exact Or.inr rfl) (dc_own (da_nil))) (dss_cons (ds_for (passes_of rfl) rfl (di_en (by rfl) T.z_enumerate (da_cons (de_var (pv 0)) (da_nil))) (dg_tup rfl (dgs_cons (dg_name (i := 3) sc_choices.nd rfl (by first | exact Or.inl rfl | exact Or.inr rfl)) (dgs_cons (dg_name (i := 4) sc_choices.nd rfl (by first | exact Or.inl rfl | exact Or.inr rfl)) (dgs_nil))) (tk_cons (tk_cons (tk_nil)))) (dss_cons (ds_extD (i := 2) (pv 2) (de_lc [("rest", 5)] rfl sc_choices.nd (di_any (de_callC C0 hr0 (by rfl) (takes_of rfl rfl rfl rfl) (da_cons (de_sl (dk_var (pv 0)) (do_some ((de_add (dk_var (pv 3)) ((de_int).k)).k)) (do_none)) (da_cons (de_sub (dk_var (pv 1)) ((de_int).k)) (da_nil))))) (blkOk_by (N := n_choices) (sc := defScope s_choices) (by decide +kernel)) (fun _ _ _ _ _ => dg_name (i := 5) sc_choices.nd rfl (by first | exact Or.inl rfl | exact Or.inr rfl)) (fun _ _ _ _ _ => dts_nil) (fun _ _ _ _ _ => de_add ((de_tup (da_cons (de_var (pv 4)) (da_nil))).k) (dk_var (pv 5))))) (dss_forget 3 (dss_forget 4 (dss_nil))))) (dss_freeze 2 (dss_one (ds_ret (de_var (pv 2)))))))) 8
theorem sc_fewest_bars : FnScope n_fewest_bars ["world", "kept"] (defScope s_fewest_bars) := ⟨rfl, rfl, rfl, by decide +kernel, rfl, by decide +kernel, by decide +kernel⟩
theorem c_fewest_bars (T : GT K mg t) : Cal P w K mg base 9 "fewest_bars" 2 t f_fewest_bars :=
  Cal.of (k := 8) T.d_fewest_bars sc_fewest_bars (fun _ _ _ _ _ _ us hl => match us, hl with | [_, _], _ => rfl) fun f cdv A outer s H E hr =>
    dss_cons (ds_expr (de_callC (c_need_world T) (hr.mono (by decide)) (by rfl) (takes_of rfl rfl rfl rfl) (da_cons (de_var (pv 0)) (da_nil)))) (dss_cons (ds_expr (de_callC (c_need_kept T) (hr.mono (by decide)) (by rfl) (takes_of rfl rfl rfl rfl) (da_cons (de_ix (dk_var (pv 0)) ((de_int).k)) (da_cons (de_var (pv 1)) (da_nil))))) (dss_cons (ds_asg (de_var (pv 0)) (dg_tup rfl (dgs_cons (dg_name (i := 2) sc_fewest_bars.nd rfl (by first | exact Or.inl rfl | exact Or.inr rfl)) (dgs_cons (dg_name (i := 3) sc_fewest_bars.nd rfl (by first | exact Or.inl rfl | exact Or.inr rfl)) (dgs_cons (dg_name (i := 4) sc_fewest_bars.nd rfl (by first | exact Or.inl rfl | exact Or.inr rfl)) (dgs_nil)))) (tk_cons (tk_cons (tk_cons (tk_nil)))))) (dss_cons (ds_setLc (k := 5) [("gap", 6)] rfl sc_fewest_bars.nd rfl rfl (sw_true rfl rfl rfl (by decide +kernel)) (di_range (by rfl) T.z_range (da_cons (de_sub ((de_len (by rfl) T.z_len (dk_var (pv 2))).k) ((de_int).k)) (da_nil))) (blkOk_by (N := n_fewest_bars) (sc := defScope s_fewest_bars) (by decide +kernel)) (fun _ _ _ _ _ => dg_name (i := 6) sc_fewest_bars.nd rfl (by first | exact Or.inl rfl | exact Or.inr rfl)) (fun _ _ _ _ _ => dts_one (dt_nin (dk_var (pv 6)) (dk_var (pv 3)))) (fun _ _ _ _ _ => de_var (pv 6))) (dss_cons (ds_for (passes_of rfl) rfl (di_range (by rfl) T.z_range (da_cons (de_add ((de_len (by rfl) T.z_len (dk_var (pv 5))).k) ((de_int).k)) (da_nil))) (dg_name (i := 7) sc_fewest_bars.nd rfl (by first | exact Or.inl rfl | exact Or.inr rfl)) (dss_cons (ds_for (passes_of rfl) rfl (di_any (de_callC (c_choices T) (hr.mono (by decide)) (by rfl) (takes_of rfl rfl rfl rfl) (da_cons (de_var (pv 5)) (da_cons (de_var (pv 7)) (da_nil))))) (dg_name (i := 8) sc_fewest_bars.nd rfl (by first | exact Or.inl rfl | exact Or.inr rfl)) (dss_cons (ds_never) (dss_forget 8 (dss_nil)))) (dss_forget 7 (dss_forget 8 (dss_nil))))) (dss_one (ds_ret (de_non)))))))
theorem sc_fewest_jars : FnScope n_fewest_jars ["world", "kept", "kind"] (defScope s_fewest_jars) := ⟨rfl, rfl, rfl, by decide +kernel, rfl, by decide +kernel, by decide +kernel⟩
theorem c_fewest_jars (T : GT K mg t) : Cal P w K mg base 9 "fewest_jars" 3 t f_fewest_jars :=
  Cal.of (k := 8) T.d_fewest_jars sc_fewest_jars (fun _ _ _ _ _ _ us hl => match us, hl with | [_, _, _], _ => rfl) fun f cdv A outer s H E hr =>
    dss_cons (ds_expr (de_callC (c_need_world T) (hr.mono (by decide)) (by rfl) (takes_of rfl rfl rfl rfl) (da_cons (de_var (pv 0)) (da_nil)))) (dss_cons (ds_expr (de_callC (c_need_kept T) (hr.mono (by decide)) (by rfl) (takes_of rfl rfl rfl rfl) (da_cons (de_ix (dk_var (pv 0)) ((de_int).k)) (da_cons (de_var (pv 1)) (da_nil))))) (dss_cons (ds_if (dt_not (dt_val (de_callC (c_is_kind T) (hr.mono (by decide)) (by rfl) (takes_of rfl rfl rfl rfl) (da_cons (de_var (pv 2)) (da_nil))))) (dss_one (ds_raiseF (t := t) (c := 0) rfl (takes_of rfl rfl rfl rfl) rfl (er_0 T) (hr.mono (by decide)) (by rfl) (de_int))) (dss_nil)) (dss_cons (ds_asg (de_var (pv 0)) (dg_tup rfl (dgs_cons (dg_name (i := 3) sc_fewest_jars.nd rfl (by first | exact Or.inl rfl | exact Or.inr rfl)) (dgs_cons (dg_name (i := 4) sc_fewest_jars.nd rfl (by first | exact Or.inl rfl | exact Or.inr rfl)) (dgs_cons (dg_name (i := 5) sc_fewest_jars.nd rfl (by first | exact Or.inl rfl | exact Or.inr rfl)) (dgs_nil)))) (tk_cons (tk_cons (tk_cons (tk_nil)))))) (dss_cons (ds_setLc (k := 6) [("place", 7)] rfl sc_fewest_jars.nd rfl rfl (sw_true rfl rfl rfl (by decide +kernel)) (di_range (by rfl) T.z_range (da_cons (de_len (by rfl) T.z_len (dk_var (pv 3))) (da_nil))) (blkOk_by (N := n_fewest_jars) (sc := defScope s_fewest_jars) (by decide +kernel)) (fun _ _ _ _ _ => dg_name (i := 7) sc_fewest_jars.nd rfl (by first | exact Or.inl rfl | exact Or.inr rfl)) (fun _ _ _ _ _ => dts_one (dt_w (dw_and (dt_nin (dk_var (pv 7)) (dk_var (pv 1))) (dw_and1 (dt_ne hr.units ((de_ix (dk_var (pv 3)) (dk_var (pv 7))).k) (dk_var (pv 2))))))) (fun _ _ _ _ _ => de_var (pv 7))) (dss_cons (ds_for (passes_of rfl) rfl (di_range (by rfl) T.z_range (da_cons (de_add ((de_len (by rfl) T.z_len (dk_var (pv 6))).k) ((de_int).k)) (da_nil))) (dg_name (i := 8) sc_fewest_jars.nd rfl (by first | exact Or.inl rfl | exact Or.inr rfl)) (dss_cons (ds_for (passes_of rfl) rfl (di_any (de_callC (c_choices T) (hr.mono (by decide)) (by rfl) (takes_of rfl rfl rfl rfl) (da_cons (de_var (pv 6)) (da_cons (de_var (pv 8)) (da_nil))))) (dg_name (i := 9) sc_fewest_jars.nd rfl (by first | exact Or.inl rfl | exact Or.inr rfl)) (dss_cons (ds_set (i := 10) sc_fewest_jars.nd rfl (by first | exact Or.inl rfl | exact Or.inr rfl) (dc_val (de_join ((de_str []).k) ((de_lc [("place", 7), ("sign", 11)] rfl sc_fewest_jars.nd (di_en (by rfl) T.z_enumerate (da_cons (de_var (pv 3)) (da_nil))) (blkOk_by (N := n_fewest_jars) (sc := defScope s_fewest_jars) (by decide +kernel)) (fun _ _ _ _ _ => dg_tup rfl (dgs_cons (dg_name (i := 7) sc_fewest_jars.nd rfl (by first | exact Or.inl rfl | exact Or.inr rfl)) (dgs_cons (dg_name (i := 11) sc_fewest_jars.nd rfl (by first | exact Or.inl rfl | exact Or.inr rfl)) (dgs_nil))) (tk_cons (tk_cons (tk_nil)))) (fun _ _ _ _ _ => dts_nil) (fun _ _ _ _ _ => de_if (dt_in (dk_var (pv 7)) (dk_var (pv 9))) (de_var (pv 2)) (de_var (pv 11)))).k)))) (dss_cons (ds_if (dt_is ((de_callC (c_first_turn T) (hr.mono (by decide)) (by rfl) (takes_of rfl rfl rfl rfl) (da_cons (de_tup (da_cons (de_var (pv 10)) (da_cons (de_var (pv 4)) (da_cons (de_var (pv 5)) (da_nil))))) (da_cons (de_var (pv 1)) (da_nil)))).k) ((de_non).k)) (dss_one (ds_ret (de_var (pv 9)))) (dss_nil)) (dss_forget 9 (dss_forget 10 (dss_nil)))))) (dss_forget 8 (dss_forget 9 (dss_forget 10 (dss_nil)))))) (dss_one (ds_ret (de_non))))))))
theorem sc_written : FnScope n_written ["world"] (defScope s_written) := ⟨rfl, rfl, rfl, by decide +kernel, rfl, by decide +kernel, by decide +kernel⟩
theorem c_written (T : GT K mg t) : Cal P w K mg base 5 "written" 1 t f_written :=
  Cal.of (k := 4) T.d_written sc_written (fun _ _ _ _ _ _ us hl => match us, hl with | [_], _ => rfl) fun f cdv A outer s H E hr =>
    dss_cons (ds_expr (de_callC (c_need_world T) (hr.mono (by decide)) (by rfl) (takes_of rfl rfl rfl rfl) (da_cons (de_var (pv 0)) (da_nil)))) (dss_cons (ds_asg (de_var (pv 0)) (dg_tup rfl (dgs_cons (dg_name (i := 1) sc_written.nd rfl (by first | exact Or.inl rfl | exact Or.inr rfl)) (dgs_cons (dg_name (i := 2) sc_written.nd rfl (by first | exact Or.inl rfl | exact Or.inr rfl)) (dgs_cons (dg_name (i := 3) sc_written.nd rfl (by first | exact Or.inl rfl | exact Or.inr rfl)) (dgs_nil)))) (tk_cons (tk_cons (tk_cons (tk_nil)))))) (dss_cons (ds_setLc (k := 4) [("place", 5), ("kind", 6)] rfl sc_written.nd rfl rfl (sw_true rfl rfl rfl (by decide +kernel)) (di_en (by rfl) T.z_enumerate (da_cons (de_var (pv 1)) (da_nil))) (blkOk_by (N := n_written) (sc := defScope s_written) (by decide +kernel)) (fun _ _ _ _ _ => dg_tup rfl (dgs_cons (dg_name (i := 5) sc_written.nd rfl (by first | exact Or.inl rfl | exact Or.inr rfl)) (dgs_cons (dg_name (i := 6) sc_written.nd rfl (by first | exact Or.inl rfl | exact Or.inr rfl)) (dgs_nil))) (tk_cons (tk_cons (tk_nil)))) (fun _ _ _ _ _ => dts_nil) (fun _ _ _ _ _ => de_add (dk_var (pv 6)) ((de_if (dt_in (dk_var (pv 5)) (dk_var (pv 2))) (de_gstrE [124] (by rfl) T.g_BAR_notes) (de_str [])).k))) (dss_cons (ds_set (i := 7) sc_written.nd rfl (by first | exact Or.inl rfl | exact Or.inr rfl) (dc_own (da_cons (de_join ((de_str []).k) (dk_var (pv 4))) (da_nil)))) (dss_cons (ds_for (passes_of rfl) rfl (di_any (de_var (pv 3))) (dg_tup rfl (dgs_cons (dg_name (i := 6) sc_written.nd rfl (by first | exact Or.inl rfl | exact Or.inr rfl)) (dgs_cons (dg_name (i := 8) sc_written.nd rfl (by first | exact Or.inl rfl | exact Or.inr rfl)) (dgs_cons (dg_name (i := 9) sc_written.nd rfl (by first | exact Or.inl rfl | exact Or.inr rfl)) (dgs_cons (dg_name (i := 10) sc_written.nd rfl (by first | exact Or.inl rfl | exact Or.inr rfl)) (dgs_cons (dg_name (i := 11) sc_written.nd rfl (by first | exact Or.inl rfl | exact Or.inr rfl)) (dgs_nil)))))) (tk_cons (tk_cons (tk_cons (tk_cons (tk_cons (tk_nil))))))) (dss_cons (ds_appD (i := 7) (pv 7) (de_join ((de_str [32]).k) ((de_lst (da_cons (de_gstrE [114, 117, 108, 101] (by rfl) T.g_RULE) (da_cons (de_var (pv 6)) (da_cons (de_var (pv 8)) (da_cons (de_text (by rfl) T.z_str (dk_var (pv 9))) (da_cons (de_text (by rfl) T.z_str (dk_var (pv 10))) (da_cons (de_var (pv 11)) (da_nil)))))))).k))) (dss_forget 8 (dss_forget 9 (dss_forget 10 (dss_forget 11 (dss_nil))))))) (dss_one (ds_ret (de_join ((de_str [10]).k) (dk_var (pv 7)))))))))
theorem sc_next_kind : FnScope n_next_kind ["rules", "left", "kind", "right"] (defScope s_next_kind) := ⟨rfl, rfl, rfl, by decide +kernel, rfl, by decide +kernel, by decide +kernel⟩
theorem c_next_kind (T : GT K mg t) : Cal P w K mg base 1 "next_kind" 4 t f_next_kind :=
  Cal.of (k := 0) T.d_next_kind sc_next_kind (fun _ _ _ _ _ _ us hl => match us, hl with | [_, _, _, _], _ => rfl) fun f cdv A outer s H E hr =>
    dss_cons (ds_for (passes_of rfl) rfl (di_any (de_var (pv 0))) (dg_name (i := 4) sc_next_kind.nd rfl (by first | exact Or.inl rfl | exact Or.inr rfl)) (dss_cons (ds_if (dt_w (dw_and (dt_eq hr.units ((de_ix (dk_var (pv 4)) ((de_int).k)).k) ((de_int).k)) (dw_and (dt_eq hr.units ((de_ix (dk_var (pv 4)) ((de_int).k)).k) (dk_var (pv 2))) (dw_and1 (dt_ge ((de_tupcnt (da_cons (de_var (pv 1)) (da_cons (de_var (pv 3)) (da_nil))) (de_ix (dk_var (pv 4)) ((de_int).k))).k) ((de_ix (dk_var (pv 4)) ((de_int).k)).k)))))) (dss_one (ds_ret (de_ix (dk_var (pv 4)) ((de_int).k)))) (dss_nil)) (dss_forget 4 (dss_nil)))) (dss_one (ds_ret (de_var (pv 2))))
theorem sc_side : FnScope n_side ["bars", "gap", "kind"] (defScope s_side) := ⟨rfl, rfl, rfl, by decide +kernel, rfl, by decide +kernel, by decide +kernel⟩
theorem c_side (T : GT K mg t) : Cal P w K mg base 1 "side" 3 t f_side :=
  Cal.of (k := 0) T.d_side sc_side (fun _ _ _ _ _ _ us hl => match us, hl with | [_, _, _], _ => rfl) fun f cdv A outer s H E hr =>
    dss_one (ds_ret (de_if (dt_in (dk_var (pv 1)) (dk_var (pv 0))) (de_str []) (de_var (pv 2))))
theorem sc_fits : FnScope n_fits ["world", "place", "left", "kind", "right"] (defScope s_fits) := ⟨rfl, rfl, rfl, by decide +kernel, rfl, by decide +kernel, by decide +kernel⟩
theorem c_fits (T : GT K mg t) : Cal P w K mg base 2 "fits" 5 t f_fits :=
  Cal.of (k := 1) T.d_fits sc_fits (fun _ _ _ _ _ _ us hl => match us, hl with | [_, _, _, _, _], _ => rfl) fun f cdv A outer s H E hr =>
    dss_cons (ds_asg (de_var (pv 0)) (dg_tup rfl (dgs_cons (dg_name (i := 5) sc_fits.nd rfl (by first | exact Or.inl rfl | exact Or.inr rfl)) (dgs_cons (dg_name (i := 6) sc_fits.nd rfl (by first | exact Or.inl rfl | exact Or.inr rfl)) (dgs_cons (dg_name (i := 7) sc_fits.nd rfl (by first | exact Or.inl rfl | exact Or.inr rfl)) (dgs_nil)))) (tk_cons (tk_cons (tk_cons (tk_nil)))))) (dss_cons (ds_set (i := 8) sc_fits.nd rfl (by first | exact Or.inl rfl | exact Or.inr rfl) (dc_val (de_if (dt_gt (dk_var (pv 1)) ((de_int).k)) (de_callC (c_side T) (hr.mono (by decide)) (by rfl) (takes_of rfl rfl rfl rfl) (da_cons (de_var (pv 6)) (da_cons (de_sub (dk_var (pv 1)) ((de_int).k)) (da_cons (de_var (pv 2)) (da_nil))))) (de_str [])))) (dss_cons (ds_set (i := 9) sc_fits.nd rfl (by first | exact Or.inl rfl | exact Or.inr rfl) (dc_val (de_if (dt_lt (dk_var (pv 1)) ((de_sub ((de_len (by rfl) T.z_len (dk_var (pv 5))).k) ((de_int).k)).k)) (de_callC (c_side T) (hr.mono (by decide)) (by rfl) (takes_of rfl rfl rfl rfl) (da_cons (de_var (pv 6)) (da_cons (de_var (pv 1)) (da_cons (de_var (pv 4)) (da_nil))))) (de_str [])))) (dss_one (ds_ret (de_eq hr.units ((de_callC (c_next_kind T) (hr.mono (by decide)) (by rfl) (takes_of rfl rfl rfl rfl) (da_cons (de_var (pv 7)) (da_cons (de_var (pv 8)) (da_cons (de_var (pv 3)) (da_cons (de_var (pv 9)) (da_nil)))))).k) ((de_ix (dk_var (pv 5)) (dk_var (pv 1))).k))))))
theorem sc_how_many : FnScope n_how_many ["world"] (defScope s_how_many) := ⟨rfl, rfl, rfl, by decide +kernel, rfl, by decide +kernel, by decide +kernel⟩
theorem c_how_many (T : GT K mg t) : Cal P w K mg base 5 "how_many" 1 t f_how_many :=
  Cal.of (k := 4) T.d_how_many sc_how_many (fun _ _ _ _ _ _ us hl => match us, hl with | [_], _ => rfl) fun f cdv A outer s H E hr =>
    dss_cons (ds_expr (de_callC (c_need_world T) (hr.mono (by decide)) (by rfl) (takes_of rfl rfl rfl rfl) (da_cons (de_var (pv 0)) (da_nil)))) (dss_cons (ds_set (i := 1) sc_how_many.nd rfl (by first | exact Or.inl rfl | exact Or.inr rfl) (dc_val (de_ix (dk_var (pv 0)) ((de_int).k)))) (dss_cons (ds_setDc (k := 2) [("kind", 3)] rfl hr.units sc_how_many.nd rfl rfl (sw_trueD rfl rfl rfl (by decide +kernel)) (di_any (de_gstrE [97, 98, 99, 100, 101] (by rfl) T.g_KINDS)) (blkOk_by (N := n_how_many) (sc := defScope s_how_many) (by decide +kernel)) (fun _ _ _ _ _ => dg_name (i := 3) sc_how_many.nd rfl (by first | exact Or.inl rfl | exact Or.inr rfl)) (fun _ _ _ _ _ => de_tup (da_cons (de_str []) (da_cons (de_var (pv 3)) (da_nil)))) (fun _ _ _ _ _ => de_int)) (dss_cons (ds_for (passes_of rfl) rfl (di_range (by rfl) T.z_range (da_cons (de_len (by rfl) T.z_len (dk_var (pv 1))) (da_nil))) (dg_name (i := 4) sc_how_many.nd rfl (by first | exact Or.inl rfl | exact Or.inr rfl)) (dss_cons (ds_set (i := 5) sc_how_many.nd rfl (by first | exact Or.inl rfl | exact Or.inr rfl) (dc_dct)) (dss_cons (ds_for (passes_of rfl) rfl (di_items (de_var (pv 2))) (dg_tup rfl (dgs_cons (dg_tup rfl (dgs_cons (dg_name (i := 6) sc_how_many.nd rfl (by first | exact Or.inl rfl | exact Or.inr rfl)) (dgs_cons (dg_name (i := 3) sc_how_many.nd rfl (by first | exact Or.inl rfl | exact Or.inr rfl)) (dgs_nil))) (tk_cons (tk_cons (tk_nil)))) (dgs_cons (dg_name (i := 7) sc_how_many.nd rfl (by first | exact Or.inl rfl | exact Or.inr rfl)) (dgs_nil))) (tk_cons (tk_cons (tk_nil)))) (dss_cons (ds_for (passes_of rfl) rfl (di_any (de_if (dt_lt (dk_var (pv 4)) ((de_sub ((de_len (by rfl) T.z_len (dk_var (pv 1))).k) ((de_int).k)).k)) (de_gstrE [97, 98, 99, 100, 101] (by rfl) T.g_KINDS) (de_tup (da_cons (de_str []) (da_nil))))) (dg_name (i := 8) sc_how_many.nd rfl (by first | exact Or.inl rfl | exact Or.inr rfl)) (dss_cons (ds_if (dt_val (de_callC (c_fits T) (hr.mono (by decide)) (by rfl) (takes_of rfl rfl rfl rfl) (da_cons (de_var (pv 0)) (da_cons (de_var (pv 4)) (da_cons (de_var (pv 6)) (da_cons (de_var (pv 3)) (da_cons (de_var (pv 8)) (da_nil)))))))) (dss_cons (ds_set (i := 9) sc_how_many.nd rfl (by first | exact Or.inl rfl | exact Or.inr rfl) (dc_val (de_tup (da_cons (de_var (pv 3)) (da_cons (de_var (pv 8)) (da_nil)))))) (dss_one (ds_putD (i := 5) hr.units (pv 5) (de_var (pv 9)) (de_add ((de_get2 (i := 5) hr.units (pv 5) (de_var (pv 9)) (de_int) ⟨rfl, rfl, rfl, rfl⟩).k) (dk_var (pv 7)))))) (dss_nil)) (dss_forget 8 (dss_forget 9 (dss_nil))))) (dss_forget 6 (dss_forget 7 (dss_forget 8 (dss_forget 9 (dss_nil))))))) (dss_freeze 5 (dss_cons (ds_set (i := 2) sc_how_many.nd rfl (by first | exact Or.inl rfl | exact Or.inr rfl) (dc_val (de_var (pv 5)))) (dss_forget 4 (dss_forget 5 (dss_forget 6 (dss_forget 7 (dss_forget 8 (dss_forget 9 (dss_nil)))))))))))) (dss_one (ds_ret (de_sumV rfl (by rfl) T.z_sum (de_var (pv 2))))))))
theorem sc_sources : FnScope n_sources ["world"] (defScope s_sources) := ⟨rfl, rfl, rfl, by decide +kernel, rfl, by decide +kernel, by decide +kernel⟩
theorem c_sources (T : GT K mg t) : Cal P w K mg base 6 "sources" 1 t f_sources :=
  Cal.of (k := 5) T.d_sources sc_sources (fun _ _ _ _ _ _ us hl => match us, hl with | [_], _ => rfl) fun f cdv A outer s H E hr =>
    dss_cons (ds_if (dt_gt ((de_callC (c_how_many T) (hr.mono (by decide)) (by rfl) (takes_of rfl rfl rfl rfl) (da_cons (de_var (pv 0)) (da_nil))).k) ((de_gintE (by rfl) T.g_MOST_ROWS).k)) (dss_one (ds_raise0 (c := 5) rfl (takes_of rfl rfl rfl rfl) T.x_TooMany rfl (by rfl))) (dss_nil)) (dss_cons (ds_set (i := 1) sc_sources.nd rfl (by first | exact Or.inl rfl | exact Or.inr rfl) (dc_val (de_ix (dk_var (pv 0)) ((de_int).k)))) (dss_cons (ds_setLc (k := 2) [("kind", 3)] rfl sc_sources.nd rfl rfl (sw_true rfl rfl rfl (by decide +kernel)) (di_any (de_gstrE [97, 98, 99, 100, 101] (by rfl) T.g_KINDS)) (blkOk_by (N := n_sources) (sc := defScope s_sources) (by decide +kernel)) (fun _ _ _ _ _ => dg_name (i := 3) sc_sources.nd rfl (by first | exact Or.inl rfl | exact Or.inr rfl)) (fun _ _ _ _ _ => dts_nil) (fun _ _ _ _ _ => de_var (pv 3))) (dss_cons (ds_for (passes_of rfl) rfl (di_range (by rfl) T.z_range (da_cons (de_len (by rfl) T.z_len (dk_var (pv 1))) (da_nil))) (dg_name (i := 4) sc_sources.nd rfl (by first | exact Or.inl rfl | exact Or.inr rfl)) (dss_cons (ds_set (i := 5) sc_sources.nd rfl (by first | exact Or.inl rfl | exact Or.inr rfl) (dc_own (da_nil))) (dss_cons (ds_for (passes_of rfl) rfl (di_any (de_var (pv 2))) (dg_name (i := 6) sc_sources.nd rfl (by first | exact Or.inl rfl | exact Or.inr rfl)) (dss_cons (ds_for (passes_of rfl) rfl (di_any (de_if (dt_lt (dk_var (pv 4)) ((de_sub ((de_len (by rfl) T.z_len (dk_var (pv 1))).k) ((de_int).k)).k)) (de_gstrE [97, 98, 99, 100, 101] (by rfl) T.g_KINDS) (de_tup (da_cons (de_str []) (da_nil))))) (dg_name (i := 7) sc_sources.nd rfl (by first | exact Or.inl rfl | exact Or.inr rfl)) (dss_cons (ds_if (dt_val (de_callC (c_fits T) (hr.mono (by decide)) (by rfl) (takes_of rfl rfl rfl rfl) (da_cons (de_var (pv 0)) (da_cons (de_var (pv 4)) (da_cons (de_if (dt_gt (dk_var (pv 4)) ((de_int).k)) (de_ix (dk_var (pv 6)) ((de_sub (dk_var (pv 4)) ((de_int).k)).k)) (de_str [])) (da_cons (de_ix (dk_var (pv 6)) (dk_var (pv 4))) (da_cons (de_var (pv 7)) (da_nil)))))))) (dss_one (ds_appD (i := 5) (pv 5) (de_add (dk_var (pv 6)) (dk_var (pv 7))))) (dss_nil)) (dss_forget 7 (dss_nil)))) (dss_forget 6 (dss_forget 7 (dss_nil))))) (dss_freeze 5 (dss_cons (ds_set (i := 2) sc_sources.nd rfl (by first | exact Or.inl rfl | exact Or.inr rfl) (dc_val (de_var (pv 5)))) (dss_forget 4 (dss_forget 5 (dss_forget 6 (dss_forget 7 (dss_nil)))))))))) (dss_one (ds_never)))))
def n__law_kind : List Str := ["_law_call", "e", "_law_kinds"]
theorem sc__law_kind : FnScope n__law_kind ["_law_call"] (defScope s__law_kind) := ⟨rfl, rfl, rfl, by decide +kernel, rfl, by decide +kernel, by decide +kernel⟩
def bk_0 (e dd : Addr) : SS := sSeq (sSet 2 (cL (aCons (sIsX e dd 1 true) (aCons (sIsX e dd 1 false) (aCons (sIsX e dd 1 false) (aCons (sIsX e dd 1 false) (aNil))))))) (sSeq (sExt 2 (sLst (aCons (sIsX e dd 1 false) (aCons (sIsX e dd 1 false) (aCons (sIsX e dd 1 false) (aNil)))))) (sSeq (sExt 2 (sLst (aCons (sIsX e dd 1 false) (aCons (sIsX e dd 1 false) (aNil))))) (sSeq (sIfS (sOr (sB (sBin opNe (sMeth "list" fCnt (sPk 2) (aCons (sC (.bl true)) aNil)) (sC (.int 1)))) (sNot (sB (sIsX e dd 1 true)))) (sRet (sTup (aCons (sC (.str [111, 116, 104, 101, 114])) (aCons (sC (.int 0)) (aNil))))) (sSkip)) (sSeq (sIfS (sOr (sB (sBin opIx (sPk 2) (sC (.int 0)))) (sB (sBin opIx (sPk 2) (sC (.int 1))))) (sRet (sTup (aCons (sIf (sB (sBin opIx (sPk 2) (sC (.int 0)))) (sC (.str [114, 111, 119])) (sC (.str [106, 97, 114]))) (aCons (sXf e dd "place" 1) (aNil))))) (sSkip)) (sSeq (sIfS (sB (sBin opIn (sC (.bl true)) (sSl (sPk 2) (oSome (sC (.int 2))) (oSome (sC (.int 6)))))) (sRet (sTup (aCons (sBin opIx (sLst (aCons (sC (.str [98, 97, 114, 115])) (aCons (sC (.str [114, 117, 108, 101, 115])) (aCons (sC (.str [107, 101, 112, 116])) (aCons (sC (.str [100, 101, 101, 100])) (aNil)))))) (sMeth "list" fIdx (sSl (sPk 2) (oSome (sC (.int 2))) (oSome (sC (.int 6)))) (aCons (sC (.bl true)) aNil))) (aCons ((fun _ _ => .bad)) (aNil))))) (sSkip)) (sRet (sIf (sB (sBin opIx (sPk 2) (sC (.int 6)))) (sTup (aCons (sC (.str [116, 101, 120, 116])) (aCons ((fun _ _ => .bad)) (aNil)))) (sIf (sB (sBin opIx (sPk 2) (sC (.int 7)))) (sTup (aCons (sC (.str [99, 111, 117, 110, 116])) (aCons (sC (.int 0)) (aNil)))) (sTup (aCons (sC (.str [109, 97, 110, 121])) (aCons (sC (.int 0)) (aNil))))))))))))
theorem su_0 (T : GT K mg t) {f : Addr} {cdv : Value} {A : Around} {outer : List PySem.Env} {s : Shared} {H : Hp} {e dd : Addr} {oe : Obj} {pn : List (Addr × Obj)} (hz : Zc (.ref (t.T 0)) (some dd) oe) (hv : ∃ vs, oe.data = .fields vs) (hr : Room 0 (A.deeper (envOfC "_law_kind" (defScope s__law_kind) s.heap.objs.size f cdv))) : DSs ((cxOf (L2.CX P w) P w K mg base n__law_kind "_law_kind" (defScope s__law_kind) f cdv A outer s H (fun _ _ _ => False)).suite e ((e, oe) :: pn)) ⟨t.T, t.fld, fun _ _ _ _ => False⟩ (match (defBody s__law_kind).getD 0 (.Pass ⟨0, 0, 0, 0⟩) with | .Try _ [.ExceptHandler _ _ b _] _ _ _ => b | _ => []) (bk_0 e dd) :=
    dss_cons (ds_set (i := 2) sc__law_kind.nd rfl (by first | exact Or.inl rfl | exact Or.inr rfl) (dc_own (da_cons (de_isX (b := true) T.e_0 hz hv (by rfl) T.z_isinstance (pv 1) (pe_glob (v := .ref (t.T 0)) (by rfl) T.c_BadRow.g rfl) (fun _ h => h) (kit_ref T.c_BadRow.d T.c_BadRow.t T.c_BadRow.s T.kk_0_0)) (da_cons (de_isX (b := false) T.e_0 hz hv (by rfl) T.z_isinstance (pv 1) (pe_glob (v := .ref (t.T 6)) (by rfl) T.c_NoJar.g rfl) (fun _ h => h) (kit_ref T.c_NoJar.d T.c_NoJar.t T.c_NoJar.s T.kk_0_6)) (da_cons (de_isX (b := false) T.e_0 hz hv (by rfl) T.z_isinstance (pv 1) (pe_glob (v := .ref (t.T 1)) (by rfl) T.c_BadBars.g rfl) (fun _ h => h) (kit_ref T.c_BadBars.d T.c_BadBars.t T.c_BadBars.s T.kk_0_1)) (da_cons (de_isX (b := false) T.e_0 hz hv (by rfl) T.z_isinstance (pv 1) (pe_glob (v := .ref (t.T 2)) (by rfl) T.c_BadRules.g rfl) (fun _ h => h) (kit_ref T.c_BadRules.d T.c_BadRules.t T.c_BadRules.s T.kk_0_2)) (da_nil))))))) (dss_cons (ds_extD (i := 2) (pv 2) (de_lst (da_cons (de_isX (b := false) T.e_0 hz hv (by rfl) T.z_isinstance (pv 1) (pe_glob (v := .ref (t.T 4)) (by rfl) T.c_BadKept.g rfl) (fun _ h => h) (kit_ref T.c_BadKept.d T.c_BadKept.t T.c_BadKept.s T.kk_0_4)) (da_cons (de_isX (b := false) T.e_0 hz hv (by rfl) T.z_isinstance (pv 1) (pe_glob (v := .ref (t.T 7)) (by rfl) T.c_BadDeed.g rfl) (fun _ h => h) (kit_ref T.c_BadDeed.d T.c_BadDeed.t T.c_BadDeed.s T.kk_0_7)) (da_cons (de_isX (b := false) T.e_0 hz hv (by rfl) T.z_isinstance (pv 1) (pe_glob (v := .ref (t.T 8)) (by rfl) T.c_BadText.g rfl) (fun _ h => h) (kit_ref T.c_BadText.d T.c_BadText.t T.c_BadText.s T.kk_0_8)) (da_nil)))))) (dss_cons (ds_extD (i := 2) (pv 2) (de_lst (da_cons (de_isX (b := false) T.e_0 hz hv (by rfl) T.z_isinstance (pv 1) (pe_glob (v := .ref (t.T 3)) (by rfl) T.c_BadCount.g rfl) (fun _ h => h) (kit_ref T.c_BadCount.d T.c_BadCount.t T.c_BadCount.s T.kk_0_3)) (da_cons (de_isX (b := false) T.e_0 hz hv (by rfl) T.z_isinstance (pv 1) (pe_glob (v := .ref (t.T 5)) (by rfl) T.c_TooMany.g rfl) (fun _ h => h) (kit_ref T.c_TooMany.d T.c_TooMany.t T.c_TooMany.s T.kk_0_5)) (da_nil))))) (dss_cons (ds_if (dt_w (dw_or (dt_ne hr.units ((de_cnt (dk_var (pv 2)) ((de_bl).k)).k) ((de_int).k)) (dw_or1 (dt_not (dt_val (de_isX (b := true) T.e_0 hz hv (by rfl) T.z_isinstance (pv 1) (pe_bltn (v := .ty "ValueError") (by rfl) T.z_ValueError rfl (by rfl)) (fun _ h => h) (kit_val T.kv_0))))))) (dss_one (ds_ret (de_tup (da_cons (de_str [111, 116, 104, 101, 114]) (da_cons (de_int) (da_nil)))))) (dss_nil)) (dss_cons (ds_if (dt_w (dw_or (dt_val (de_ix (dk_var (pv 2)) ((de_int).k))) (dw_or1 (dt_val (de_ix (dk_var (pv 2)) ((de_int).k)))))) (dss_one (ds_ret (de_tup (da_cons (de_if (dt_val (de_ix (dk_var (pv 2)) ((de_int).k))) (de_str [114, 111, 119]) (de_str [106, 97, 114])) (da_cons (de_xf T.e_0 T.no_0 hz hv (pv 1)) (da_nil)))))) (dss_nil)) (dss_cons (ds_if (dt_in ((de_bl).k) ((de_sl (dk_var (pv 2)) (do_some ((de_int).k)) (do_some ((de_int).k))).k)) (dss_one (ds_ret (de_tup (da_cons (de_ix ((de_lst (da_cons (de_str [98, 97, 114, 115]) (da_cons (de_str [114, 117, 108, 101, 115]) (da_cons (de_str [107, 101, 112, 116]) (da_cons (de_str [100, 101, 101, 100]) (da_nil)))))).k) ((de_idx ((de_sl (dk_var (pv 2)) (do_some ((de_int).k)) (do_some ((de_int).k))).k) ((de_bl).k)).k)) (da_cons (de_never) (da_nil)))))) (dss_nil)) (dss_one (ds_ret (de_if (dt_val (de_ix (dk_var (pv 2)) ((de_int).k))) (de_tup (da_cons (de_str [116, 101, 120, 116]) (da_cons (de_never) (da_nil)))) (de_if (dt_val (de_ix (dk_var (pv 2)) ((de_int).k))) (de_tup (da_cons (de_str [99, 111, 117, 110, 116]) (da_cons (de_int) (da_nil)))) (de_tup (da_cons (de_str [109, 97, 110, 121]) (da_cons (de_int) (da_nil)))))))))))))
theorem bk_0_ok (e dd : Addr) (i : Int) (d : D) (m : Sto) : bk_0 e dd (startE n__law_kind [d, .erx e dd "place" i]) m = .rt (.tup [.str [114, 111, 119], .int i]) m := by
  have h5 : (5 : Nat) ≤ LIM := by decide
  have h9 : (9 : Nat) ≤ LIM := by decide
  have h4 : (4 : Nat) ≤ LIM := by decide
  have h3 : (3 : Nat) ≤ LIM := by decide
  have h2 : (2 : Nat) ≤ LIM := by decide
  have h7 : (7 : Nat) ≤ LIM := by decide
  show bk_0 e dd [some (.val d), some (.val (.erx e dd "place" i)), none] m = _
  unfold bk_0
  have f1 : fCnt (.lst [.bl true, .bl false, .bl false, .bl false, .bl false, .bl false, .bl false, .bl false, .bl false]) [.bl true] m = .ok (.int 1) m := rfl
  have f2 : kD (.lst [.bl true, .bl false, .bl false, .bl false, .bl false, .bl false, .bl false, .bl false, .bl false]) = "list" := rfl
  have f3 : okN 60 (.int 1) = true := rfl
  have f4 : eqD (.int 1) (.int 1) = true := rfl
  have g0 : ixD (.lst [.bl true, .bl false, .bl false, .bl false, .bl false, .bl false, .bl false, .bl false, .bl false]) (.int 0) = some (.bl true) := rfl
  have g1 : ixD (.lst [.bl true, .bl false, .bl false, .bl false, .bl false, .bl false, .bl false, .bl false, .bl false]) (.int 1) = some (.bl false) := rfl
  have g6 : ixD (.lst [.bl true, .bl false, .bl false, .bl false, .bl false, .bl false, .bl false, .bl false, .bl false]) (.int 6) = some (.bl false) := rfl
  have g7 : ixD (.lst [.bl true, .bl false, .bl false, .bl false, .bl false, .bl false, .bl false, .bl false, .bl false]) (.int 7) = some (.bl false) := rfl
  have f5 : cutL ([.bl true, .bl false, .bl false, .bl false, .bl false, .bl false, .bl false, .bl false, .bl false] : List D) (some 2) (some 6) = [.bl false, .bl false, .bl false, .bl false] := rfl
  have f6 : opIn (.bl true) (.lst [.bl false, .bl false, .bl false, .bl false]) m = .ok (.bl false) m := rfl
  simp [-ev_in, -ev_idx, h5, h9, h4, h3, h2, h7, f1, f2, f3, f4, g0, g1, g6, g7, f5, f6]
def bk_1 (e dd : Addr) : SS := sSeq (sSet 2 (cL (aCons (sIsX e dd 1 false) (aCons (sIsX e dd 1 false) (aCons (sIsX e dd 1 true) (aCons (sIsX e dd 1 false) (aNil))))))) (sSeq (sExt 2 (sLst (aCons (sIsX e dd 1 false) (aCons (sIsX e dd 1 false) (aCons (sIsX e dd 1 false) (aNil)))))) (sSeq (sExt 2 (sLst (aCons (sIsX e dd 1 false) (aCons (sIsX e dd 1 false) (aNil))))) (sSeq (sIfS (sOr (sB (sBin opNe (sMeth "list" fCnt (sPk 2) (aCons (sC (.bl true)) aNil)) (sC (.int 1)))) (sNot (sB (sIsX e dd 1 true)))) (sRet (sTup (aCons (sC (.str [111, 116, 104, 101, 114])) (aCons (sC (.int 0)) (aNil))))) (sSkip)) (sSeq (sIfS (sOr (sB (sBin opIx (sPk 2) (sC (.int 0)))) (sB (sBin opIx (sPk 2) (sC (.int 1))))) (sRet (sTup (aCons (sIf (sB (sBin opIx (sPk 2) (sC (.int 0)))) (sC (.str [114, 111, 119])) (sC (.str [106, 97, 114]))) (aCons ((fun _ _ => .bad)) (aNil))))) (sSkip)) (sSeq (sIfS (sB (sBin opIn (sC (.bl true)) (sSl (sPk 2) (oSome (sC (.int 2))) (oSome (sC (.int 6)))))) (sRet (sTup (aCons (sBin opIx (sLst (aCons (sC (.str [98, 97, 114, 115])) (aCons (sC (.str [114, 117, 108, 101, 115])) (aCons (sC (.str [107, 101, 112, 116])) (aCons (sC (.str [100, 101, 101, 100])) (aNil)))))) (sMeth "list" fIdx (sSl (sPk 2) (oSome (sC (.int 2))) (oSome (sC (.int 6)))) (aCons (sC (.bl true)) aNil))) (aCons (sXf e dd "number" 1) (aNil))))) (sSkip)) (sRet (sIf (sB (sBin opIx (sPk 2) (sC (.int 6)))) (sTup (aCons (sC (.str [116, 101, 120, 116])) (aCons ((fun _ _ => .bad)) (aNil)))) (sIf (sB (sBin opIx (sPk 2) (sC (.int 7)))) (sTup (aCons (sC (.str [99, 111, 117, 110, 116])) (aCons (sC (.int 0)) (aNil)))) (sTup (aCons (sC (.str [109, 97, 110, 121])) (aCons (sC (.int 0)) (aNil))))))))))))
theorem su_1 (T : GT K mg t) {f : Addr} {cdv : Value} {A : Around} {outer : List PySem.Env} {s : Shared} {H : Hp} {e dd : Addr} {oe : Obj} {pn : List (Addr × Obj)} (hz : Zc (.ref (t.T 1)) (some dd) oe) (hv : ∃ vs, oe.data = .fields vs) (hr : Room 0 (A.deeper (envOfC "_law_kind" (defScope s__law_kind) s.heap.objs.size f cdv))) : DSs ((cxOf (L2.CX P w) P w K mg base n__law_kind "_law_kind" (defScope s__law_kind) f cdv A outer s H (fun _ _ _ => False)).suite e ((e, oe) :: pn)) ⟨t.T, t.fld, fun _ _ _ _ => False⟩ (match (defBody s__law_kind).getD 0 (.Pass ⟨0, 0, 0, 0⟩) with | .Try _ [.ExceptHandler _ _ b _] _ _ _ => b | _ => []) (bk_1 e dd) :=
    dss_cons (ds_set (i := 2) sc__law_kind.nd rfl (by first | exact Or.inl rfl | exact Or.inr rfl) (dc_own (da_cons (de_isX (b := false) T.e_1 hz hv (by rfl) T.z_isinstance (pv 1) (pe_glob (v := .ref (t.T 0)) (by rfl) T.c_BadRow.g rfl) (fun _ h => h) (kit_ref T.c_BadRow.d T.c_BadRow.t T.c_BadRow.s T.kk_1_0)) (da_cons (de_isX (b := false) T.e_1 hz hv (by rfl) T.z_isinstance (pv 1) (pe_glob (v := .ref (t.T 6)) (by rfl) T.c_NoJar.g rfl) (fun _ h => h) (kit_ref T.c_NoJar.d T.c_NoJar.t T.c_NoJar.s T.kk_1_6)) (da_cons (de_isX (b := true) T.e_1 hz hv (by rfl) T.z_isinstance (pv 1) (pe_glob (v := .ref (t.T 1)) (by rfl) T.c_BadBars.g rfl) (fun _ h => h) (kit_ref T.c_BadBars.d T.c_BadBars.t T.c_BadBars.s T.kk_1_1)) (da_cons (de_isX (b := false) T.e_1 hz hv (by rfl) T.z_isinstance (pv 1) (pe_glob (v := .ref (t.T 2)) (by rfl) T.c_BadRules.g rfl) (fun _ h => h) (kit_ref T.c_BadRules.d T.c_BadRules.t T.c_BadRules.s T.kk_1_2)) (da_nil))))))) (dss_cons (ds_extD (i := 2) (pv 2) (de_lst (da_cons (de_isX (b := false) T.e_1 hz hv (by rfl) T.z_isinstance (pv 1) (pe_glob (v := .ref (t.T 4)) (by rfl) T.c_BadKept.g rfl) (fun _ h => h) (kit_ref T.c_BadKept.d T.c_BadKept.t T.c_BadKept.s T.kk_1_4)) (da_cons (de_isX (b := false) T.e_1 hz hv (by rfl) T.z_isinstance (pv 1) (pe_glob (v := .ref (t.T 7)) (by rfl) T.c_BadDeed.g rfl) (fun _ h => h) (kit_ref T.c_BadDeed.d T.c_BadDeed.t T.c_BadDeed.s T.kk_1_7)) (da_cons (de_isX (b := false) T.e_1 hz hv (by rfl) T.z_isinstance (pv 1) (pe_glob (v := .ref (t.T 8)) (by rfl) T.c_BadText.g rfl) (fun _ h => h) (kit_ref T.c_BadText.d T.c_BadText.t T.c_BadText.s T.kk_1_8)) (da_nil)))))) (dss_cons (ds_extD (i := 2) (pv 2) (de_lst (da_cons (de_isX (b := false) T.e_1 hz hv (by rfl) T.z_isinstance (pv 1) (pe_glob (v := .ref (t.T 3)) (by rfl) T.c_BadCount.g rfl) (fun _ h => h) (kit_ref T.c_BadCount.d T.c_BadCount.t T.c_BadCount.s T.kk_1_3)) (da_cons (de_isX (b := false) T.e_1 hz hv (by rfl) T.z_isinstance (pv 1) (pe_glob (v := .ref (t.T 5)) (by rfl) T.c_TooMany.g rfl) (fun _ h => h) (kit_ref T.c_TooMany.d T.c_TooMany.t T.c_TooMany.s T.kk_1_5)) (da_nil))))) (dss_cons (ds_if (dt_w (dw_or (dt_ne hr.units ((de_cnt (dk_var (pv 2)) ((de_bl).k)).k) ((de_int).k)) (dw_or1 (dt_not (dt_val (de_isX (b := true) T.e_1 hz hv (by rfl) T.z_isinstance (pv 1) (pe_bltn (v := .ty "ValueError") (by rfl) T.z_ValueError rfl (by rfl)) (fun _ h => h) (kit_val T.kv_1))))))) (dss_one (ds_ret (de_tup (da_cons (de_str [111, 116, 104, 101, 114]) (da_cons (de_int) (da_nil)))))) (dss_nil)) (dss_cons (ds_if (dt_w (dw_or (dt_val (de_ix (dk_var (pv 2)) ((de_int).k))) (dw_or1 (dt_val (de_ix (dk_var (pv 2)) ((de_int).k)))))) (dss_one (ds_ret (de_tup (da_cons (de_if (dt_val (de_ix (dk_var (pv 2)) ((de_int).k))) (de_str [114, 111, 119]) (de_str [106, 97, 114])) (da_cons (de_never) (da_nil)))))) (dss_nil)) (dss_cons (ds_if (dt_in ((de_bl).k) ((de_sl (dk_var (pv 2)) (do_some ((de_int).k)) (do_some ((de_int).k))).k)) (dss_one (ds_ret (de_tup (da_cons (de_ix ((de_lst (da_cons (de_str [98, 97, 114, 115]) (da_cons (de_str [114, 117, 108, 101, 115]) (da_cons (de_str [107, 101, 112, 116]) (da_cons (de_str [100, 101, 101, 100]) (da_nil)))))).k) ((de_idx ((de_sl (dk_var (pv 2)) (do_some ((de_int).k)) (do_some ((de_int).k))).k) ((de_bl).k)).k)) (da_cons (de_xf T.e_1 T.no_1 hz hv (pv 1)) (da_nil)))))) (dss_nil)) (dss_one (ds_ret (de_if (dt_val (de_ix (dk_var (pv 2)) ((de_int).k))) (de_tup (da_cons (de_str [116, 101, 120, 116]) (da_cons (de_never) (da_nil)))) (de_if (dt_val (de_ix (dk_var (pv 2)) ((de_int).k))) (de_tup (da_cons (de_str [99, 111, 117, 110, 116]) (da_cons (de_int) (da_nil)))) (de_tup (da_cons (de_str [109, 97, 110, 121]) (da_cons (de_int) (da_nil)))))))))))))
theorem bk_1_ok (e dd : Addr) (i : Int) (d : D) (m : Sto) : bk_1 e dd (startE n__law_kind [d, .erx e dd "number" i]) m = .rt (.tup [.str [98, 97, 114, 115], .int i]) m := by
  have h5 : (5 : Nat) ≤ LIM := by decide
  have h9 : (9 : Nat) ≤ LIM := by decide
  have h4 : (4 : Nat) ≤ LIM := by decide
  have h3 : (3 : Nat) ≤ LIM := by decide
  have h2 : (2 : Nat) ≤ LIM := by decide
  have h7 : (7 : Nat) ≤ LIM := by decide
  show bk_1 e dd [some (.val d), some (.val (.erx e dd "number" i)), none] m = _
  unfold bk_1
  have f1 : fCnt (.lst [.bl false, .bl false, .bl true, .bl false, .bl false, .bl false, .bl false, .bl false, .bl false]) [.bl true] m = .ok (.int 1) m := rfl
  have f2 : kD (.lst [.bl false, .bl false, .bl true, .bl false, .bl false, .bl false, .bl false, .bl false, .bl false]) = "list" := rfl
  have f3 : okN 60 (.int 1) = true := rfl
  have f4 : eqD (.int 1) (.int 1) = true := rfl
  have g0 : ixD (.lst [.bl false, .bl false, .bl true, .bl false, .bl false, .bl false, .bl false, .bl false, .bl false]) (.int 0) = some (.bl false) := rfl
  have g1 : ixD (.lst [.bl false, .bl false, .bl true, .bl false, .bl false, .bl false, .bl false, .bl false, .bl false]) (.int 1) = some (.bl false) := rfl
  have g6 : ixD (.lst [.bl false, .bl false, .bl true, .bl false, .bl false, .bl false, .bl false, .bl false, .bl false]) (.int 6) = some (.bl false) := rfl
  have g7 : ixD (.lst [.bl false, .bl false, .bl true, .bl false, .bl false, .bl false, .bl false, .bl false, .bl false]) (.int 7) = some (.bl false) := rfl
  have f5 : cutL ([.bl false, .bl false, .bl true, .bl false, .bl false, .bl false, .bl false, .bl false, .bl false] : List D) (some 2) (some 6) = [.bl true, .bl false, .bl false, .bl false] := rfl
  have f6 : opIn (.bl true) (.lst [.bl true, .bl false, .bl false, .bl false]) m = .ok (.bl true) m := rfl
  have f7 : fIdx (.lst [.bl true, .bl false, .bl false, .bl false]) [.bl true] m = .ok (.int 0) m := rfl
  have f8 : kD (.lst [.bl true, .bl false, .bl false, .bl false]) = "list" := rfl
  have f9 : ixD (.lst [.str [98, 97, 114, 115], .str [114, 117, 108, 101, 115], .str [107, 101, 112, 116], .str [100, 101, 101, 100]]) (.int 0) = some (.str [98, 97, 114, 115]) := rfl
  simp [-ev_in, -ev_idx, h5, h9, h4, h3, h2, h7, f1, f2, f3, f4, g0, g1, g6, g7, f5, f6, f7, f8, f9]
def bk_2 (e dd : Addr) : SS := sSeq (sSet 2 (cL (aCons (sIsX e dd 1 false) (aCons (sIsX e dd 1 false) (aCons (sIsX e dd 1 false) (aCons (sIsX e dd 1 true) (aNil))))))) (sSeq (sExt 2 (sLst (aCons (sIsX e dd 1 false) (aCons (sIsX e dd 1 false) (aCons (sIsX e dd 1 false) (aNil)))))) (sSeq (sExt 2 (sLst (aCons (sIsX e dd 1 false) (aCons (sIsX e dd 1 false) (aNil))))) (sSeq (sIfS (sOr (sB (sBin opNe (sMeth "list" fCnt (sPk 2) (aCons (sC (.bl true)) aNil)) (sC (.int 1)))) (sNot (sB (sIsX e dd 1 true)))) (sRet (sTup (aCons (sC (.str [111, 116, 104, 101, 114])) (aCons (sC (.int 0)) (aNil))))) (sSkip)) (sSeq (sIfS (sOr (sB (sBin opIx (sPk 2) (sC (.int 0)))) (sB (sBin opIx (sPk 2) (sC (.int 1))))) (sRet (sTup (aCons (sIf (sB (sBin opIx (sPk 2) (sC (.int 0)))) (sC (.str [114, 111, 119])) (sC (.str [106, 97, 114]))) (aCons ((fun _ _ => .bad)) (aNil))))) (sSkip)) (sSeq (sIfS (sB (sBin opIn (sC (.bl true)) (sSl (sPk 2) (oSome (sC (.int 2))) (oSome (sC (.int 6)))))) (sRet (sTup (aCons (sBin opIx (sLst (aCons (sC (.str [98, 97, 114, 115])) (aCons (sC (.str [114, 117, 108, 101, 115])) (aCons (sC (.str [107, 101, 112, 116])) (aCons (sC (.str [100, 101, 101, 100])) (aNil)))))) (sMeth "list" fIdx (sSl (sPk 2) (oSome (sC (.int 2))) (oSome (sC (.int 6)))) (aCons (sC (.bl true)) aNil))) (aCons (sXf e dd "number" 1) (aNil))))) (sSkip)) (sRet (sIf (sB (sBin opIx (sPk 2) (sC (.int 6)))) (sTup (aCons (sC (.str [116, 101, 120, 116])) (aCons ((fun _ _ => .bad)) (aNil)))) (sIf (sB (sBin opIx (sPk 2) (sC (.int 7)))) (sTup (aCons (sC (.str [99, 111, 117, 110, 116])) (aCons (sC (.int 0)) (aNil)))) (sTup (aCons (sC (.str [109, 97, 110, 121])) (aCons (sC (.int 0)) (aNil))))))))))))
theorem su_2 (T : GT K mg t) {f : Addr} {cdv : Value} {A : Around} {outer : List PySem.Env} {s : Shared} {H : Hp} {e dd : Addr} {oe : Obj} {pn : List (Addr × Obj)} (hz : Zc (.ref (t.T 2)) (some dd) oe) (hv : ∃ vs, oe.data = .fields vs) (hr : Room 0 (A.deeper (envOfC "_law_kind" (defScope s__law_kind) s.heap.objs.size f cdv))) : DSs ((cxOf (L2.CX P w) P w K mg base n__law_kind "_law_kind" (defScope s__law_kind) f cdv A outer s H (fun _ _ _ => False)).suite e ((e, oe) :: pn)) ⟨t.T, t.fld, fun _ _ _ _ => False⟩ (match (defBody s__law_kind).getD 0 (.Pass ⟨0, 0, 0, 0⟩) with | .Try _ [.ExceptHandler _ _ b _] _ _ _ => b | _ => []) (bk_2 e dd) :=
    dss_cons (ds_set (i := 2) sc__law_kind.nd rfl (by first | exact Or.inl rfl | exact Or.inr rfl) (dc_own (da_cons (de_isX (b := false) T.e_2 hz hv (by rfl) T.z_isinstance (pv 1) (pe_glob (v := .ref (t.T 0)) (by rfl) T.c_BadRow.g rfl) (fun _ h => h) (kit_ref T.c_BadRow.d T.c_BadRow.t T.c_BadRow.s T.kk_2_0)) (da_cons (de_isX (b := false) T.e_2 hz hv (by rfl) T.z_isinstance (pv 1) (pe_glob (v := .ref (t.T 6)) (by rfl) T.c_NoJar.g rfl) (fun _ h => h) (kit_ref T.c_NoJar.d T.c_NoJar.t T.c_NoJar.s T.kk_2_6)) (da_cons (de_isX (b := false) T.e_2 hz hv (by rfl) T.z_isinstance (pv 1) (pe_glob (v := .ref (t.T 1)) (by rfl) T.c_BadBars.g rfl) (fun _ h => h) (kit_ref T.c_BadBars.d T.c_BadBars.t T.c_BadBars.s T.kk_2_1)) (da_cons (de_isX (b := true) T.e_2 hz hv (by rfl) T.z_isinstance (pv 1) (pe_glob (v := .ref (t.T 2)) (by rfl) T.c_BadRules.g rfl) (fun _ h => h) (kit_ref T.c_BadRules.d T.c_BadRules.t T.c_BadRules.s T.kk_2_2)) (da_nil))))))) (dss_cons (ds_extD (i := 2) (pv 2) (de_lst (da_cons (de_isX (b := false) T.e_2 hz hv (by rfl) T.z_isinstance (pv 1) (pe_glob (v := .ref (t.T 4)) (by rfl) T.c_BadKept.g rfl) (fun _ h => h) (kit_ref T.c_BadKept.d T.c_BadKept.t T.c_BadKept.s T.kk_2_4)) (da_cons (de_isX (b := false) T.e_2 hz hv (by rfl) T.z_isinstance (pv 1) (pe_glob (v := .ref (t.T 7)) (by rfl) T.c_BadDeed.g rfl) (fun _ h => h) (kit_ref T.c_BadDeed.d T.c_BadDeed.t T.c_BadDeed.s T.kk_2_7)) (da_cons (de_isX (b := false) T.e_2 hz hv (by rfl) T.z_isinstance (pv 1) (pe_glob (v := .ref (t.T 8)) (by rfl) T.c_BadText.g rfl) (fun _ h => h) (kit_ref T.c_BadText.d T.c_BadText.t T.c_BadText.s T.kk_2_8)) (da_nil)))))) (dss_cons (ds_extD (i := 2) (pv 2) (de_lst (da_cons (de_isX (b := false) T.e_2 hz hv (by rfl) T.z_isinstance (pv 1) (pe_glob (v := .ref (t.T 3)) (by rfl) T.c_BadCount.g rfl) (fun _ h => h) (kit_ref T.c_BadCount.d T.c_BadCount.t T.c_BadCount.s T.kk_2_3)) (da_cons (de_isX (b := false) T.e_2 hz hv (by rfl) T.z_isinstance (pv 1) (pe_glob (v := .ref (t.T 5)) (by rfl) T.c_TooMany.g rfl) (fun _ h => h) (kit_ref T.c_TooMany.d T.c_TooMany.t T.c_TooMany.s T.kk_2_5)) (da_nil))))) (dss_cons (ds_if (dt_w (dw_or (dt_ne hr.units ((de_cnt (dk_var (pv 2)) ((de_bl).k)).k) ((de_int).k)) (dw_or1 (dt_not (dt_val (de_isX (b := true) T.e_2 hz hv (by rfl) T.z_isinstance (pv 1) (pe_bltn (v := .ty "ValueError") (by rfl) T.z_ValueError rfl (by rfl)) (fun _ h => h) (kit_val T.kv_2))))))) (dss_one (ds_ret (de_tup (da_cons (de_str [111, 116, 104, 101, 114]) (da_cons (de_int) (da_nil)))))) (dss_nil)) (dss_cons (ds_if (dt_w (dw_or (dt_val (de_ix (dk_var (pv 2)) ((de_int).k))) (dw_or1 (dt_val (de_ix (dk_var (pv 2)) ((de_int).k)))))) (dss_one (ds_ret (de_tup (da_cons (de_if (dt_val (de_ix (dk_var (pv 2)) ((de_int).k))) (de_str [114, 111, 119]) (de_str [106, 97, 114])) (da_cons (de_never) (da_nil)))))) (dss_nil)) (dss_cons (ds_if (dt_in ((de_bl).k) ((de_sl (dk_var (pv 2)) (do_some ((de_int).k)) (do_some ((de_int).k))).k)) (dss_one (ds_ret (de_tup (da_cons (de_ix ((de_lst (da_cons (de_str [98, 97, 114, 115]) (da_cons (de_str [114, 117, 108, 101, 115]) (da_cons (de_str [107, 101, 112, 116]) (da_cons (de_str [100, 101, 101, 100]) (da_nil)))))).k) ((de_idx ((de_sl (dk_var (pv 2)) (do_some ((de_int).k)) (do_some ((de_int).k))).k) ((de_bl).k)).k)) (da_cons (de_xf T.e_2 T.no_2 hz hv (pv 1)) (da_nil)))))) (dss_nil)) (dss_one (ds_ret (de_if (dt_val (de_ix (dk_var (pv 2)) ((de_int).k))) (de_tup (da_cons (de_str [116, 101, 120, 116]) (da_cons (de_never) (da_nil)))) (de_if (dt_val (de_ix (dk_var (pv 2)) ((de_int).k))) (de_tup (da_cons (de_str [99, 111, 117, 110, 116]) (da_cons (de_int) (da_nil)))) (de_tup (da_cons (de_str [109, 97, 110, 121]) (da_cons (de_int) (da_nil)))))))))))))
theorem bk_2_ok (e dd : Addr) (i : Int) (d : D) (m : Sto) : bk_2 e dd (startE n__law_kind [d, .erx e dd "number" i]) m = .rt (.tup [.str [114, 117, 108, 101, 115], .int i]) m := by
  have h5 : (5 : Nat) ≤ LIM := by decide
  have h9 : (9 : Nat) ≤ LIM := by decide
  have h4 : (4 : Nat) ≤ LIM := by decide
  have h3 : (3 : Nat) ≤ LIM := by decide
  have h2 : (2 : Nat) ≤ LIM := by decide
  have h7 : (7 : Nat) ≤ LIM := by decide
  show bk_2 e dd [some (.val d), some (.val (.erx e dd "number" i)), none] m = _
  unfold bk_2
  have f1 : fCnt (.lst [.bl false, .bl false, .bl false, .bl true, .bl false, .bl false, .bl false, .bl false, .bl false]) [.bl true] m = .ok (.int 1) m := rfl
  have f2 : kD (.lst [.bl false, .bl false, .bl false, .bl true, .bl false, .bl false, .bl false, .bl false, .bl false]) = "list" := rfl
  have f3 : okN 60 (.int 1) = true := rfl
  have f4 : eqD (.int 1) (.int 1) = true := rfl
  have g0 : ixD (.lst [.bl false, .bl false, .bl false, .bl true, .bl false, .bl false, .bl false, .bl false, .bl false]) (.int 0) = some (.bl false) := rfl
  have g1 : ixD (.lst [.bl false, .bl false, .bl false, .bl true, .bl false, .bl false, .bl false, .bl false, .bl false]) (.int 1) = some (.bl false) := rfl
  have g6 : ixD (.lst [.bl false, .bl false, .bl false, .bl true, .bl false, .bl false, .bl false, .bl false, .bl false]) (.int 6) = some (.bl false) := rfl
  have g7 : ixD (.lst [.bl false, .bl false, .bl false, .bl true, .bl false, .bl false, .bl false, .bl false, .bl false]) (.int 7) = some (.bl false) := rfl
  have f5 : cutL ([.bl false, .bl false, .bl false, .bl true, .bl false, .bl false, .bl false, .bl false, .bl false] : List D) (some 2) (some 6) = [.bl false, .bl true, .bl false, .bl false] := rfl
  have f6 : opIn (.bl true) (.lst [.bl false, .bl true, .bl false, .bl false]) m = .ok (.bl true) m := rfl
  have f7 : fIdx (.lst [.bl false, .bl true, .bl false, .bl false]) [.bl true] m = .ok (.int 1) m := rfl
  have f8 : kD (.lst [.bl false, .bl true, .bl false, .bl false]) = "list" := rfl
  have f9 : ixD (.lst [.str [98, 97, 114, 115], .str [114, 117, 108, 101, 115], .str [107, 101, 112, 116], .str [100, 101, 101, 100]]) (.int 1) = some (.str [114, 117, 108, 101, 115]) := rfl
  simp [-ev_in, -ev_idx, h5, h9, h4, h3, h2, h7, f1, f2, f3, f4, g0, g1, g6, g7, f5, f6, f7, f8, f9]
def bk_3 (e : Addr) : SS := sSeq (sSet 2 (cL (aCons (sIsE e 1 false) (aCons (sIsE e 1 false) (aCons (sIsE e 1 false) (aCons (sIsE e 1 false) (aNil))))))) (sSeq (sExt 2 (sLst (aCons (sIsE e 1 false) (aCons (sIsE e 1 false) (aCons (sIsE e 1 false) (aNil)))))) (sSeq (sExt 2 (sLst (aCons (sIsE e 1 true) (aCons (sIsE e 1 false) (aNil))))) (sSeq (sIfS (sOr (sB (sBin opNe (sMeth "list" fCnt (sPk 2) (aCons (sC (.bl true)) aNil)) (sC (.int 1)))) (sNot (sB (sIsE e 1 true)))) (sRet (sTup (aCons (sC (.str [111, 116, 104, 101, 114])) (aCons (sC (.int 0)) (aNil))))) (sSkip)) (sSeq (sIfS (sOr (sB (sBin opIx (sPk 2) (sC (.int 0)))) (sB (sBin opIx (sPk 2) (sC (.int 1))))) (sRet (sTup (aCons (sIf (sB (sBin opIx (sPk 2) (sC (.int 0)))) (sC (.str [114, 111, 119])) (sC (.str [106, 97, 114]))) (aCons ((fun _ _ => .bad)) (aNil))))) (sSkip)) (sSeq (sIfS (sB (sBin opIn (sC (.bl true)) (sSl (sPk 2) (oSome (sC (.int 2))) (oSome (sC (.int 6)))))) (sRet (sTup (aCons (sBin opIx (sLst (aCons (sC (.str [98, 97, 114, 115])) (aCons (sC (.str [114, 117, 108, 101, 115])) (aCons (sC (.str [107, 101, 112, 116])) (aCons (sC (.str [100, 101, 101, 100])) (aNil)))))) (sMeth "list" fIdx (sSl (sPk 2) (oSome (sC (.int 2))) (oSome (sC (.int 6)))) (aCons (sC (.bl true)) aNil))) (aCons ((fun _ _ => .bad)) (aNil))))) (sSkip)) (sRet (sIf (sB (sBin opIx (sPk 2) (sC (.int 6)))) (sTup (aCons (sC (.str [116, 101, 120, 116])) (aCons ((fun _ _ => .bad)) (aNil)))) (sIf (sB (sBin opIx (sPk 2) (sC (.int 7)))) (sTup (aCons (sC (.str [99, 111, 117, 110, 116])) (aCons (sC (.int 0)) (aNil)))) (sTup (aCons (sC (.str [109, 97, 110, 121])) (aCons (sC (.int 0)) (aNil))))))))))))
theorem su_3 (T : GT K mg t) {f : Addr} {cdv : Value} {A : Around} {outer : List PySem.Env} {s : Shared} {H : Hp} {e : Addr} {oe : Obj} {pn : List (Addr × Obj)} (hz : Zc (.ref (t.T 3)) none oe) (hv : ∃ vs, oe.data = .fields vs) (hr : Room 0 (A.deeper (envOfC "_law_kind" (defScope s__law_kind) s.heap.objs.size f cdv))) : DSs ((cxOf (L2.CX P w) P w K mg base n__law_kind "_law_kind" (defScope s__law_kind) f cdv A outer s H (fun _ _ _ => False)).suite e ((e, oe) :: pn)) ⟨t.T, t.fld, fun _ _ _ _ => False⟩ (match (defBody s__law_kind).getD 0 (.Pass ⟨0, 0, 0, 0⟩) with | .Try _ [.ExceptHandler _ _ b _] _ _ _ => b | _ => []) (bk_3 e) :=
    dss_cons (ds_set (i := 2) sc__law_kind.nd rfl (by first | exact Or.inl rfl | exact Or.inr rfl) (dc_own (da_cons (de_isE (b := false) T.e_3 hz hv (by rfl) T.z_isinstance (pv 1) (pe_glob (v := .ref (t.T 0)) (by rfl) T.c_BadRow.g rfl) (fun _ h => h) (kit_ref T.c_BadRow.d T.c_BadRow.t T.c_BadRow.s T.kk_3_0)) (da_cons (de_isE (b := false) T.e_3 hz hv (by rfl) T.z_isinstance (pv 1) (pe_glob (v := .ref (t.T 6)) (by rfl) T.c_NoJar.g rfl) (fun _ h => h) (kit_ref T.c_NoJar.d T.c_NoJar.t T.c_NoJar.s T.kk_3_6)) (da_cons (de_isE (b := false) T.e_3 hz hv (by rfl) T.z_isinstance (pv 1) (pe_glob (v := .ref (t.T 1)) (by rfl) T.c_BadBars.g rfl) (fun _ h => h) (kit_ref T.c_BadBars.d T.c_BadBars.t T.c_BadBars.s T.kk_3_1)) (da_cons (de_isE (b := false) T.e_3 hz hv (by rfl) T.z_isinstance (pv 1) (pe_glob (v := .ref (t.T 2)) (by rfl) T.c_BadRules.g rfl) (fun _ h => h) (kit_ref T.c_BadRules.d T.c_BadRules.t T.c_BadRules.s T.kk_3_2)) (da_nil))))))) (dss_cons (ds_extD (i := 2) (pv 2) (de_lst (da_cons (de_isE (b := false) T.e_3 hz hv (by rfl) T.z_isinstance (pv 1) (pe_glob (v := .ref (t.T 4)) (by rfl) T.c_BadKept.g rfl) (fun _ h => h) (kit_ref T.c_BadKept.d T.c_BadKept.t T.c_BadKept.s T.kk_3_4)) (da_cons (de_isE (b := false) T.e_3 hz hv (by rfl) T.z_isinstance (pv 1) (pe_glob (v := .ref (t.T 7)) (by rfl) T.c_BadDeed.g rfl) (fun _ h => h) (kit_ref T.c_BadDeed.d T.c_BadDeed.t T.c_BadDeed.s T.kk_3_7)) (da_cons (de_isE (b := false) T.e_3 hz hv (by rfl) T.z_isinstance (pv 1) (pe_glob (v := .ref (t.T 8)) (by rfl) T.c_BadText.g rfl) (fun _ h => h) (kit_ref T.c_BadText.d T.c_BadText.t T.c_BadText.s T.kk_3_8)) (da_nil)))))) (dss_cons (ds_extD (i := 2) (pv 2) (de_lst (da_cons (de_isE (b := true) T.e_3 hz hv (by rfl) T.z_isinstance (pv 1) (pe_glob (v := .ref (t.T 3)) (by rfl) T.c_BadCount.g rfl) (fun _ h => h) (kit_ref T.c_BadCount.d T.c_BadCount.t T.c_BadCount.s T.kk_3_3)) (da_cons (de_isE (b := false) T.e_3 hz hv (by rfl) T.z_isinstance (pv 1) (pe_glob (v := .ref (t.T 5)) (by rfl) T.c_TooMany.g rfl) (fun _ h => h) (kit_ref T.c_TooMany.d T.c_TooMany.t T.c_TooMany.s T.kk_3_5)) (da_nil))))) (dss_cons (ds_if (dt_w (dw_or (dt_ne hr.units ((de_cnt (dk_var (pv 2)) ((de_bl).k)).k) ((de_int).k)) (dw_or1 (dt_not (dt_val (de_isE (b := true) T.e_3 hz hv (by rfl) T.z_isinstance (pv 1) (pe_bltn (v := .ty "ValueError") (by rfl) T.z_ValueError rfl (by rfl)) (fun _ h => h) (kit_val T.kv_3))))))) (dss_one (ds_ret (de_tup (da_cons (de_str [111, 116, 104, 101, 114]) (da_cons (de_int) (da_nil)))))) (dss_nil)) (dss_cons (ds_if (dt_w (dw_or (dt_val (de_ix (dk_var (pv 2)) ((de_int).k))) (dw_or1 (dt_val (de_ix (dk_var (pv 2)) ((de_int).k)))))) (dss_one (ds_ret (de_tup (da_cons (de_if (dt_val (de_ix (dk_var (pv 2)) ((de_int).k))) (de_str [114, 111, 119]) (de_str [106, 97, 114])) (da_cons (de_never) (da_nil)))))) (dss_nil)) (dss_cons (ds_if (dt_in ((de_bl).k) ((de_sl (dk_var (pv 2)) (do_some ((de_int).k)) (do_some ((de_int).k))).k)) (dss_one (ds_ret (de_tup (da_cons (de_ix ((de_lst (da_cons (de_str [98, 97, 114, 115]) (da_cons (de_str [114, 117, 108, 101, 115]) (da_cons (de_str [107, 101, 112, 116]) (da_cons (de_str [100, 101, 101, 100]) (da_nil)))))).k) ((de_idx ((de_sl (dk_var (pv 2)) (do_some ((de_int).k)) (do_some ((de_int).k))).k) ((de_bl).k)).k)) (da_cons (de_never) (da_nil)))))) (dss_nil)) (dss_one (ds_ret (de_if (dt_val (de_ix (dk_var (pv 2)) ((de_int).k))) (de_tup (da_cons (de_str [116, 101, 120, 116]) (da_cons (de_never) (da_nil)))) (de_if (dt_val (de_ix (dk_var (pv 2)) ((de_int).k))) (de_tup (da_cons (de_str [99, 111, 117, 110, 116]) (da_cons (de_int) (da_nil)))) (de_tup (da_cons (de_str [109, 97, 110, 121]) (da_cons (de_int) (da_nil)))))))))))))
theorem bk_3_ok (e : Addr) (d : D) (m : Sto) : bk_3 e (startE n__law_kind [d, .cst (.ref e)]) m = .rt (.tup [.str [99, 111, 117, 110, 116], .int 0]) m := by
  have h5 : (5 : Nat) ≤ LIM := by decide
  have h9 : (9 : Nat) ≤ LIM := by decide
  have h4 : (4 : Nat) ≤ LIM := by decide
  have h3 : (3 : Nat) ≤ LIM := by decide
  have h2 : (2 : Nat) ≤ LIM := by decide
  have h7 : (7 : Nat) ≤ LIM := by decide
  show bk_3 e [some (.val d), some (.val (.cst (.ref e))), none] m = _
  unfold bk_3
  simp [h5, h9, h4, h3, h2, h7] <;> rfl
def bk_4 (e dd : Addr) : SS := sSeq (sSet 2 (cL (aCons (sIsX e dd 1 false) (aCons (sIsX e dd 1 false) (aCons (sIsX e dd 1 false) (aCons (sIsX e dd 1 false) (aNil))))))) (sSeq (sExt 2 (sLst (aCons (sIsX e dd 1 true) (aCons (sIsX e dd 1 false) (aCons (sIsX e dd 1 false) (aNil)))))) (sSeq (sExt 2 (sLst (aCons (sIsX e dd 1 false) (aCons (sIsX e dd 1 false) (aNil))))) (sSeq (sIfS (sOr (sB (sBin opNe (sMeth "list" fCnt (sPk 2) (aCons (sC (.bl true)) aNil)) (sC (.int 1)))) (sNot (sB (sIsX e dd 1 true)))) (sRet (sTup (aCons (sC (.str [111, 116, 104, 101, 114])) (aCons (sC (.int 0)) (aNil))))) (sSkip)) (sSeq (sIfS (sOr (sB (sBin opIx (sPk 2) (sC (.int 0)))) (sB (sBin opIx (sPk 2) (sC (.int 1))))) (sRet (sTup (aCons (sIf (sB (sBin opIx (sPk 2) (sC (.int 0)))) (sC (.str [114, 111, 119])) (sC (.str [106, 97, 114]))) (aCons ((fun _ _ => .bad)) (aNil))))) (sSkip)) (sSeq (sIfS (sB (sBin opIn (sC (.bl true)) (sSl (sPk 2) (oSome (sC (.int 2))) (oSome (sC (.int 6)))))) (sRet (sTup (aCons (sBin opIx (sLst (aCons (sC (.str [98, 97, 114, 115])) (aCons (sC (.str [114, 117, 108, 101, 115])) (aCons (sC (.str [107, 101, 112, 116])) (aCons (sC (.str [100, 101, 101, 100])) (aNil)))))) (sMeth "list" fIdx (sSl (sPk 2) (oSome (sC (.int 2))) (oSome (sC (.int 6)))) (aCons (sC (.bl true)) aNil))) (aCons (sXf e dd "number" 1) (aNil))))) (sSkip)) (sRet (sIf (sB (sBin opIx (sPk 2) (sC (.int 6)))) (sTup (aCons (sC (.str [116, 101, 120, 116])) (aCons ((fun _ _ => .bad)) (aNil)))) (sIf (sB (sBin opIx (sPk 2) (sC (.int 7)))) (sTup (aCons (sC (.str [99, 111, 117, 110, 116])) (aCons (sC (.int 0)) (aNil)))) (sTup (aCons (sC (.str [109, 97, 110, 121])) (aCons (sC (.int 0)) (aNil))))))))))))
theorem su_4 (T : GT K mg t) {f : Addr} {cdv : Value} {A : Around} {outer : List PySem.Env} {s : Shared} {H : Hp} {e dd : Addr} {oe : Obj} {pn : List (Addr × Obj)} (hz : Zc (.ref (t.T 4)) (some dd) oe) (hv : ∃ vs, oe.data = .fields vs) (hr : Room 0 (A.deeper (envOfC "_law_kind" (defScope s__law_kind) s.heap.objs.size f cdv))) : DSs ((cxOf (L2.CX P w) P w K mg base n__law_kind "_law_kind" (defScope s__law_kind) f cdv A outer s H (fun _ _ _ => False)).suite e ((e, oe) :: pn)) ⟨t.T, t.fld, fun _ _ _ _ => False⟩ (match (defBody s__law_kind).getD 0 (.Pass ⟨0, 0, 0, 0⟩) with | .Try _ [.ExceptHandler _ _ b _] _ _ _ => b | _ => []) (bk_4 e dd) :=
    dss_cons (ds_set (i := 2) sc__law_kind.nd rfl (by first | exact Or.inl rfl | exact Or.inr rfl) (dc_own (da_cons (de_isX (b := false) T.e_4 hz hv (by rfl) T.z_isinstance (pv 1) (pe_glob (v := .ref (t.T 0)) (by rfl) T.c_BadRow.g rfl) (fun _ h => h) (kit_ref T.c_BadRow.d T.c_BadRow.t T.c_BadRow.s T.kk_4_0)) (da_cons (de_isX (b := false) T.e_4 hz hv (by rfl) T.z_isinstance (pv 1) (pe_glob (v := .ref (t.T 6)) (by rfl) T.c_NoJar.g rfl) (fun _ h => h) (kit_ref T.c_NoJar.d T.c_NoJar.t T.c_NoJar.s T.kk_4_6)) (da_cons (de_isX (b := false) T.e_4 hz hv (by rfl) T.z_isinstance (pv 1) (pe_glob (v := .ref (t.T 1)) (by rfl) T.c_BadBars.g rfl) (fun _ h => h) (kit_ref T.c_BadBars.d T.c_BadBars.t T.c_BadBars.s T.kk_4_1)) (da_cons (de_isX (b := false) T.e_4 hz hv (by rfl) T.z_isinstance (pv 1) (pe_glob (v := .ref (t.T 2)) (by rfl) T.c_BadRules.g rfl) (fun _ h => h) (kit_ref T.c_BadRules.d T.c_BadRules.t T.c_BadRules.s T.kk_4_2)) (da_nil))))))) (dss_cons (ds_extD (i := 2) (pv 2) (de_lst (da_cons (de_isX (b := true) T.e_4 hz hv (by rfl) T.z_isinstance (pv 1) (pe_glob (v := .ref (t.T 4)) (by rfl) T.c_BadKept.g rfl) (fun _ h => h) (kit_ref T.c_BadKept.d T.c_BadKept.t T.c_BadKept.s T.kk_4_4)) (da_cons (de_isX (b := false) T.e_4 hz hv (by rfl) T.z_isinstance (pv 1) (pe_glob (v := .ref (t.T 7)) (by rfl) T.c_BadDeed.g rfl) (fun _ h => h) (kit_ref T.c_BadDeed.d T.c_BadDeed.t T.c_BadDeed.s T.kk_4_7)) (da_cons (de_isX (b := false) T.e_4 hz hv (by rfl) T.z_isinstance (pv 1) (pe_glob (v := .ref (t.T 8)) (by rfl) T.c_BadText.g rfl) (fun _ h => h) (kit_ref T.c_BadText.d T.c_BadText.t T.c_BadText.s T.kk_4_8)) (da_nil)))))) (dss_cons (ds_extD (i := 2) (pv 2) (de_lst (da_cons (de_isX (b := false) T.e_4 hz hv (by rfl) T.z_isinstance (pv 1) (pe_glob (v := .ref (t.T 3)) (by rfl) T.c_BadCount.g rfl) (fun _ h => h) (kit_ref T.c_BadCount.d T.c_BadCount.t T.c_BadCount.s T.kk_4_3)) (da_cons (de_isX (b := false) T.e_4 hz hv (by rfl) T.z_isinstance (pv 1) (pe_glob (v := .ref (t.T 5)) (by rfl) T.c_TooMany.g rfl) (fun _ h => h) (kit_ref T.c_TooMany.d T.c_TooMany.t T.c_TooMany.s T.kk_4_5)) (da_nil))))) (dss_cons (ds_if (dt_w (dw_or (dt_ne hr.units ((de_cnt (dk_var (pv 2)) ((de_bl).k)).k) ((de_int).k)) (dw_or1 (dt_not (dt_val (de_isX (b := true) T.e_4 hz hv (by rfl) T.z_isinstance (pv 1) (pe_bltn (v := .ty "ValueError") (by rfl) T.z_ValueError rfl (by rfl)) (fun _ h => h) (kit_val T.kv_4))))))) (dss_one (ds_ret (de_tup (da_cons (de_str [111, 116, 104, 101, 114]) (da_cons (de_int) (da_nil)))))) (dss_nil)) (dss_cons (ds_if (dt_w (dw_or (dt_val (de_ix (dk_var (pv 2)) ((de_int).k))) (dw_or1 (dt_val (de_ix (dk_var (pv 2)) ((de_int).k)))))) (dss_one (ds_ret (de_tup (da_cons (de_if (dt_val (de_ix (dk_var (pv 2)) ((de_int).k))) (de_str [114, 111, 119]) (de_str [106, 97, 114])) (da_cons (de_never) (da_nil)))))) (dss_nil)) (dss_cons (ds_if (dt_in ((de_bl).k) ((de_sl (dk_var (pv 2)) (do_some ((de_int).k)) (do_some ((de_int).k))).k)) (dss_one (ds_ret (de_tup (da_cons (de_ix ((de_lst (da_cons (de_str [98, 97, 114, 115]) (da_cons (de_str [114, 117, 108, 101, 115]) (da_cons (de_str [107, 101, 112, 116]) (da_cons (de_str [100, 101, 101, 100]) (da_nil)))))).k) ((de_idx ((de_sl (dk_var (pv 2)) (do_some ((de_int).k)) (do_some ((de_int).k))).k) ((de_bl).k)).k)) (da_cons (de_xf T.e_4 T.no_4 hz hv (pv 1)) (da_nil)))))) (dss_nil)) (dss_one (ds_ret (de_if (dt_val (de_ix (dk_var (pv 2)) ((de_int).k))) (de_tup (da_cons (de_str [116, 101, 120, 116]) (da_cons (de_never) (da_nil)))) (de_if (dt_val (de_ix (dk_var (pv 2)) ((de_int).k))) (de_tup (da_cons (de_str [99, 111, 117, 110, 116]) (da_cons (de_int) (da_nil)))) (de_tup (da_cons (de_str [109, 97, 110, 121]) (da_cons (de_int) (da_nil)))))))))))))
theorem bk_4_ok (e dd : Addr) (i : Int) (d : D) (m : Sto) : bk_4 e dd (startE n__law_kind [d, .erx e dd "number" i]) m = .rt (.tup [.str [107, 101, 112, 116], .int i]) m := by
  have h5 : (5 : Nat) ≤ LIM := by decide
  have h9 : (9 : Nat) ≤ LIM := by decide
  have h4 : (4 : Nat) ≤ LIM := by decide
  have h3 : (3 : Nat) ≤ LIM := by decide
  have h2 : (2 : Nat) ≤ LIM := by decide
  have h7 : (7 : Nat) ≤ LIM := by decide
  show bk_4 e dd [some (.val d), some (.val (.erx e dd "number" i)), none] m = _
  unfold bk_4
  have f1 : fCnt (.lst [.bl false, .bl false, .bl false, .bl false, .bl true, .bl false, .bl false, .bl false, .bl false]) [.bl true] m = .ok (.int 1) m := rfl
  have f2 : kD (.lst [.bl false, .bl false, .bl false, .bl false, .bl true, .bl false, .bl false, .bl false, .bl false]) = "list" := rfl
  have f3 : okN 60 (.int 1) = true := rfl
  have f4 : eqD (.int 1) (.int 1) = true := rfl
  have g0 : ixD (.lst [.bl false, .bl false, .bl false, .bl false, .bl true, .bl false, .bl false, .bl false, .bl false]) (.int 0) = some (.bl false) := rfl
  have g1 : ixD (.lst [.bl false, .bl false, .bl false, .bl false, .bl true, .bl false, .bl false, .bl false, .bl false]) (.int 1) = some (.bl false) := rfl
  have g6 : ixD (.lst [.bl false, .bl false, .bl false, .bl false, .bl true, .bl false, .bl false, .bl false, .bl false]) (.int 6) = some (.bl false) := rfl
  have g7 : ixD (.lst [.bl false, .bl false, .bl false, .bl false, .bl true, .bl false, .bl false, .bl false, .bl false]) (.int 7) = some (.bl false) := rfl
  have f5 : cutL ([.bl false, .bl false, .bl false, .bl false, .bl true, .bl false, .bl false, .bl false, .bl false] : List D) (some 2) (some 6) = [.bl false, .bl false, .bl true, .bl false] := rfl
  have f6 : opIn (.bl true) (.lst [.bl false, .bl false, .bl true, .bl false]) m = .ok (.bl true) m := rfl
  have f7 : fIdx (.lst [.bl false, .bl false, .bl true, .bl false]) [.bl true] m = .ok (.int 2) m := rfl
  have f8 : kD (.lst [.bl false, .bl false, .bl true, .bl false]) = "list" := rfl
  have f9 : ixD (.lst [.str [98, 97, 114, 115], .str [114, 117, 108, 101, 115], .str [107, 101, 112, 116], .str [100, 101, 101, 100]]) (.int 2) = some (.str [107, 101, 112, 116]) := rfl
  simp [-ev_in, -ev_idx, h5, h9, h4, h3, h2, h7, f1, f2, f3, f4, g0, g1, g6, g7, f5, f6, f7, f8, f9]
def bk_5 (e : Addr) : SS := sSeq (sSet 2 (cL (aCons (sIsE e 1 false) (aCons (sIsE e 1 false) (aCons (sIsE e 1 false) (aCons (sIsE e 1 false) (aNil))))))) (sSeq (sExt 2 (sLst (aCons (sIsE e 1 false) (aCons (sIsE e 1 false) (aCons (sIsE e 1 false) (aNil)))))) (sSeq (sExt 2 (sLst (aCons (sIsE e 1 false) (aCons (sIsE e 1 true) (aNil))))) (sSeq (sIfS (sOr (sB (sBin opNe (sMeth "list" fCnt (sPk 2) (aCons (sC (.bl true)) aNil)) (sC (.int 1)))) (sNot (sB (sIsE e 1 true)))) (sRet (sTup (aCons (sC (.str [111, 116, 104, 101, 114])) (aCons (sC (.int 0)) (aNil))))) (sSkip)) (sSeq (sIfS (sOr (sB (sBin opIx (sPk 2) (sC (.int 0)))) (sB (sBin opIx (sPk 2) (sC (.int 1))))) (sRet (sTup (aCons (sIf (sB (sBin opIx (sPk 2) (sC (.int 0)))) (sC (.str [114, 111, 119])) (sC (.str [106, 97, 114]))) (aCons ((fun _ _ => .bad)) (aNil))))) (sSkip)) (sSeq (sIfS (sB (sBin opIn (sC (.bl true)) (sSl (sPk 2) (oSome (sC (.int 2))) (oSome (sC (.int 6)))))) (sRet (sTup (aCons (sBin opIx (sLst (aCons (sC (.str [98, 97, 114, 115])) (aCons (sC (.str [114, 117, 108, 101, 115])) (aCons (sC (.str [107, 101, 112, 116])) (aCons (sC (.str [100, 101, 101, 100])) (aNil)))))) (sMeth "list" fIdx (sSl (sPk 2) (oSome (sC (.int 2))) (oSome (sC (.int 6)))) (aCons (sC (.bl true)) aNil))) (aCons ((fun _ _ => .bad)) (aNil))))) (sSkip)) (sRet (sIf (sB (sBin opIx (sPk 2) (sC (.int 6)))) (sTup (aCons (sC (.str [116, 101, 120, 116])) (aCons ((fun _ _ => .bad)) (aNil)))) (sIf (sB (sBin opIx (sPk 2) (sC (.int 7)))) (sTup (aCons (sC (.str [99, 111, 117, 110, 116])) (aCons (sC (.int 0)) (aNil)))) (sTup (aCons (sC (.str [109, 97, 110, 121])) (aCons (sC (.int 0)) (aNil))))))))))))
theorem su_5 (T : GT K mg t) {f : Addr} {cdv : Value} {A : Around} {outer : List PySem.Env} {s : Shared} {H : Hp} {e : Addr} {oe : Obj} {pn : List (Addr × Obj)} (hz : Zc (.ref (t.T 5)) none oe) (hv : ∃ vs, oe.data = .fields vs) (hr : Room 0 (A.deeper (envOfC "_law_kind" (defScope s__law_kind) s.heap.objs.size f cdv))) : DSs ((cxOf (L2.CX P w) P w K mg base n__law_kind "_law_kind" (defScope s__law_kind) f cdv A outer s H (fun _ _ _ => False)).suite e ((e, oe) :: pn)) ⟨t.T, t.fld, fun _ _ _ _ => False⟩ (match (defBody s__law_kind).getD 0 (.Pass ⟨0, 0, 0, 0⟩) with | .Try _ [.ExceptHandler _ _ b _] _ _ _ => b | _ => []) (bk_5 e) :=
    dss_cons (ds_set (i := 2) sc__law_kind.nd rfl (by first | exact Or.inl rfl | exact Or.inr rfl) (dc_own (da_cons (de_isE (b := false) T.e_5 hz hv (by rfl) T.z_isinstance (pv 1) (pe_glob (v := .ref (t.T 0)) (by rfl) T.c_BadRow.g rfl) (fun _ h => h) (kit_ref T.c_BadRow.d T.c_BadRow.t T.c_BadRow.s T.kk_5_0)) (da_cons (de_isE (b := false) T.e_5 hz hv (by rfl) T.z_isinstance (pv 1) (pe_glob (v := .ref (t.T 6)) (by rfl) T.c_NoJar.g rfl) (fun _ h => h) (kit_ref T.c_NoJar.d T.c_NoJar.t T.c_NoJar.s T.kk_5_6)) (da_cons (de_isE (b := false) T.e_5 hz hv (by rfl) T.z_isinstance (pv 1) (pe_glob (v := .ref (t.T 1)) (by rfl) T.c_BadBars.g rfl) (fun _ h => h) (kit_ref T.c_BadBars.d T.c_BadBars.t T.c_BadBars.s T.kk_5_1)) (da_cons (de_isE (b := false) T.e_5 hz hv (by rfl) T.z_isinstance (pv 1) (pe_glob (v := .ref (t.T 2)) (by rfl) T.c_BadRules.g rfl) (fun _ h => h) (kit_ref T.c_BadRules.d T.c_BadRules.t T.c_BadRules.s T.kk_5_2)) (da_nil))))))) (dss_cons (ds_extD (i := 2) (pv 2) (de_lst (da_cons (de_isE (b := false) T.e_5 hz hv (by rfl) T.z_isinstance (pv 1) (pe_glob (v := .ref (t.T 4)) (by rfl) T.c_BadKept.g rfl) (fun _ h => h) (kit_ref T.c_BadKept.d T.c_BadKept.t T.c_BadKept.s T.kk_5_4)) (da_cons (de_isE (b := false) T.e_5 hz hv (by rfl) T.z_isinstance (pv 1) (pe_glob (v := .ref (t.T 7)) (by rfl) T.c_BadDeed.g rfl) (fun _ h => h) (kit_ref T.c_BadDeed.d T.c_BadDeed.t T.c_BadDeed.s T.kk_5_7)) (da_cons (de_isE (b := false) T.e_5 hz hv (by rfl) T.z_isinstance (pv 1) (pe_glob (v := .ref (t.T 8)) (by rfl) T.c_BadText.g rfl) (fun _ h => h) (kit_ref T.c_BadText.d T.c_BadText.t T.c_BadText.s T.kk_5_8)) (da_nil)))))) (dss_cons (ds_extD (i := 2) (pv 2) (de_lst (da_cons (de_isE (b := false) T.e_5 hz hv (by rfl) T.z_isinstance (pv 1) (pe_glob (v := .ref (t.T 3)) (by rfl) T.c_BadCount.g rfl) (fun _ h => h) (kit_ref T.c_BadCount.d T.c_BadCount.t T.c_BadCount.s T.kk_5_3)) (da_cons (de_isE (b := true) T.e_5 hz hv (by rfl) T.z_isinstance (pv 1) (pe_glob (v := .ref (t.T 5)) (by rfl) T.c_TooMany.g rfl) (fun _ h => h) (kit_ref T.c_TooMany.d T.c_TooMany.t T.c_TooMany.s T.kk_5_5)) (da_nil))))) (dss_cons (ds_if (dt_w (dw_or (dt_ne hr.units ((de_cnt (dk_var (pv 2)) ((de_bl).k)).k) ((de_int).k)) (dw_or1 (dt_not (dt_val (de_isE (b := true) T.e_5 hz hv (by rfl) T.z_isinstance (pv 1) (pe_bltn (v := .ty "ValueError") (by rfl) T.z_ValueError rfl (by rfl)) (fun _ h => h) (kit_val T.kv_5))))))) (dss_one (ds_ret (de_tup (da_cons (de_str [111, 116, 104, 101, 114]) (da_cons (de_int) (da_nil)))))) (dss_nil)) (dss_cons (ds_if (dt_w (dw_or (dt_val (de_ix (dk_var (pv 2)) ((de_int).k))) (dw_or1 (dt_val (de_ix (dk_var (pv 2)) ((de_int).k)))))) (dss_one (ds_ret (de_tup (da_cons (de_if (dt_val (de_ix (dk_var (pv 2)) ((de_int).k))) (de_str [114, 111, 119]) (de_str [106, 97, 114])) (da_cons (de_never) (da_nil)))))) (dss_nil)) (dss_cons (ds_if (dt_in ((de_bl).k) ((de_sl (dk_var (pv 2)) (do_some ((de_int).k)) (do_some ((de_int).k))).k)) (dss_one (ds_ret (de_tup (da_cons (de_ix ((de_lst (da_cons (de_str [98, 97, 114, 115]) (da_cons (de_str [114, 117, 108, 101, 115]) (da_cons (de_str [107, 101, 112, 116]) (da_cons (de_str [100, 101, 101, 100]) (da_nil)))))).k) ((de_idx ((de_sl (dk_var (pv 2)) (do_some ((de_int).k)) (do_some ((de_int).k))).k) ((de_bl).k)).k)) (da_cons (de_never) (da_nil)))))) (dss_nil)) (dss_one (ds_ret (de_if (dt_val (de_ix (dk_var (pv 2)) ((de_int).k))) (de_tup (da_cons (de_str [116, 101, 120, 116]) (da_cons (de_never) (da_nil)))) (de_if (dt_val (de_ix (dk_var (pv 2)) ((de_int).k))) (de_tup (da_cons (de_str [99, 111, 117, 110, 116]) (da_cons (de_int) (da_nil)))) (de_tup (da_cons (de_str [109, 97, 110, 121]) (da_cons (de_int) (da_nil)))))))))))))
theorem bk_5_ok (e : Addr) (d : D) (m : Sto) : bk_5 e (startE n__law_kind [d, .cst (.ref e)]) m = .rt (.tup [.str [109, 97, 110, 121], .int 0]) m := by
  have h5 : (5 : Nat) ≤ LIM := by decide
  have h9 : (9 : Nat) ≤ LIM := by decide
  have h4 : (4 : Nat) ≤ LIM := by decide
  have h3 : (3 : Nat) ≤ LIM := by decide
  have h2 : (2 : Nat) ≤ LIM := by decide
  have h7 : (7 : Nat) ≤ LIM := by decide
  show bk_5 e [some (.val d), some (.val (.cst (.ref e))), none] m = _
  unfold bk_5
  simp [h5, h9, h4, h3, h2, h7] <;> rfl
def bk__law_kind (e : Addr) (c : Nat) (d : Option Addr) : SS := match c, d with
  | 0, some dd => bk_0 e dd
  | 1, some dd => bk_1 e dd
  | 2, some dd => bk_2 e dd
  | 3, _ => bk_3 e
  | 4, some dd => bk_4 e dd
  | 5, _ => bk_5 e
  | _, _ => fun _ _ => .bad
theorem kd_cases {c : Nat} {v d : D} (h : KD__law_kind c v = some d) : (∃ i, c = 0 ∧ v = .int i ∧ d = .tup [.str [114, 111, 119], .int i]) ∨ (∃ i, c = 1 ∧ v = .int i ∧ d = .tup [.str [98, 97, 114, 115], .int i]) ∨ (∃ i, c = 2 ∧ v = .int i ∧ d = .tup [.str [114, 117, 108, 101, 115], .int i]) ∨ (c = 3 ∧ v = .own [] [] ∧ d = .tup [.str [99, 111, 117, 110, 116], .int 0]) ∨ (∃ i, c = 4 ∧ v = .int i ∧ d = .tup [.str [107, 101, 112, 116], .int i]) ∨ (c = 5 ∧ v = .own [] [] ∧ d = .tup [.str [109, 97, 110, 121], .int 0]) := by
  unfold KD__law_kind at h
  split at h
  · cases h; exact .inl ⟨_, rfl, rfl, rfl⟩
  · cases h; exact .inr (.inl ⟨_, rfl, rfl, rfl⟩)
  · cases h; exact .inr (.inr (.inl ⟨_, rfl, rfl, rfl⟩))
  · cases h; exact .inr (.inr (.inr (.inl ⟨rfl, rfl, rfl⟩)))
  · cases h; exact .inr (.inr (.inr (.inr (.inl ⟨_, rfl, rfl, rfl⟩))))
  · cases h; exact .inr (.inr (.inr (.inr (.inr (⟨rfl, rfl, rfl⟩)))))
  · cases h
theorem ki__law_kind (T : GT K mg t) : KindIs P w K mg t "_law_kind" "_law_call" s__law_kind n__law_kind KD__law_kind where
  df := T.d__law_kind
  hb := (fun _ _ _ _ _ _ us hl => match us, hl with | [_], _ => rfl)
  Sg := sc__law_kind
  N0 := rfl
  N3 := rfl
  va := Or.inl rfl
  da := by decide
  ca := by decide
  body := ⟨"RowError", "e", _, _, t.T 9, _, _, _, _, _, _, _, _, _, _, _, _, _, bk__law_kind, rfl, rfl, rfl, rfl, T.c_RowError.g, by decide, fun c v d h => by
    rcases kd_cases h with ⟨i, rfl, rfl, rfl⟩ | ⟨i, rfl, rfl, rfl⟩ | ⟨i, rfl, rfl, rfl⟩ | ⟨rfl, rfl, rfl⟩ | ⟨i, rfl, rfl, rfl⟩ | ⟨rfl, rfl, rfl⟩
    · exact ⟨.inr ⟨_, rfl⟩, T.m_0⟩
    · exact ⟨.inr ⟨_, rfl⟩, T.m_1⟩
    · exact ⟨.inr ⟨_, rfl⟩, T.m_2⟩
    · exact ⟨.inl rfl, T.m_3⟩
    · exact ⟨.inr ⟨_, rfl⟩, T.m_4⟩
    · exact ⟨.inl rfl, T.m_5⟩, fun base f cdv A outer s H e oe pn c v d' d h hh hz hv hr => by
    rcases kd_cases h with ⟨i, rfl, rfl, rfl⟩ | ⟨i, rfl, rfl, rfl⟩ | ⟨i, rfl, rfl, rfl⟩ | ⟨rfl, rfl, rfl⟩ | ⟨i, rfl, rfl, rfl⟩ | ⟨rfl, rfl, rfl⟩
    · rcases hh with ⟨z, _⟩ | ⟨_, dd, _, rfl⟩
      · exact (by cases z)
      · exact su_0 T hz hv hr
    · rcases hh with ⟨z, _⟩ | ⟨_, dd, _, rfl⟩
      · exact (by cases z)
      · exact su_1 T hz hv hr
    · rcases hh with ⟨z, _⟩ | ⟨_, dd, _, rfl⟩
      · exact (by cases z)
      · exact su_2 T hz hv hr
    · rcases hh with ⟨_, rfl⟩ | ⟨_, _, z, _⟩
      · exact su_3 T hz hv hr
      · exact (by cases z)
    · rcases hh with ⟨z, _⟩ | ⟨_, dd, _, rfl⟩
      · exact (by cases z)
      · exact su_4 T hz hv hr
    · rcases hh with ⟨_, rfl⟩ | ⟨_, _, z, _⟩
      · exact su_5 T hz hv hr
      · exact (by cases z), fun c v d' d h hh e x m => by
    rcases kd_cases h with ⟨i, rfl, rfl, rfl⟩ | ⟨i, rfl, rfl, rfl⟩ | ⟨i, rfl, rfl, rfl⟩ | ⟨rfl, rfl, rfl⟩ | ⟨i, rfl, rfl, rfl⟩ | ⟨rfl, rfl, rfl⟩
    · rcases hh with ⟨z, _⟩ | ⟨_, dd, _, rfl⟩
      · exact (by cases z)
      · exact (by rw [T.fl_0]; exact bk_0_ok e dd _ x m)
    · rcases hh with ⟨z, _⟩ | ⟨_, dd, _, rfl⟩
      · exact (by cases z)
      · exact (by rw [T.fl_1]; exact bk_1_ok e dd _ x m)
    · rcases hh with ⟨z, _⟩ | ⟨_, dd, _, rfl⟩
      · exact (by cases z)
      · exact (by rw [T.fl_2]; exact bk_2_ok e dd _ x m)
    · rcases hh with ⟨_, rfl⟩ | ⟨_, _, z, _⟩
      · exact bk_3_ok e x m
      · exact (by cases z)
    · rcases hh with ⟨z, _⟩ | ⟨_, dd, _, rfl⟩
      · exact (by cases z)
      · exact (by rw [T.fl_4]; exact bk_4_ok e dd _ x m)
    · rcases hh with ⟨_, rfl⟩ | ⟨_, _, z, _⟩
      · exact bk_5_ok e x m
      · exact (by cases z)⟩
theorem sc__law_refusals : FnScope n__law_refusals ["_law_world_here"] (defScope s__law_refusals) := ⟨rfl, rfl, rfl, by decide +kernel, rfl, by decide +kernel, by decide +kernel⟩
def lx__law_refusals_0 : Arguments × Expr × Scope := lamX (exAt [0, 0] (exprS (stAt [0] (defBody s__law_refusals))))
theorem lf__law_refusals_0 : ∀ y ∈ lx__law_refusals_0.2.2.names, y.2 = .free → (defScope s__law_refusals).names.lookup y.1 = some .cell ∨ (defScope s__law_refusals).names.lookup y.1 = some .free := by decide +kernel
theorem ld__law_refusals_0 : ∀ env : PySem.Env, defaultsOf lx__law_refusals_0.1 env = ([], []) := fun _ => rfl
theorem lh__law_refusals_0 : lx__law_refusals_0.1.defaults.isEmpty = true := rfl
theorem lo__law_refusals_0 (T : GT K mg t) {q : Str} {cells : List (Str × Addr)} : LamOk P w K mg t 9 ⟨lx__law_refusals_0.1, lx__law_refusals_0.2.1, lx__law_refusals_0.2.2, q, cloFrom cells lx__law_refusals_0.2.2.names []⟩ ["_law_world_here"] lt__law_refusals_0 := ⟨[], rfl, ⟨fun _ => ⟨rfl, fun _ _ _ _ => rfl⟩, (fun z => nomatch z)⟩, NdefX.nscope_by (sc := lx__law_refusals_0.2.2) (by decide +kernel), rfl, fun base f c' A outer s H E hr =>
    de_callC (c_beats T) (hr.mono (by decide)) (by rfl) (takes_of rfl rfl rfl rfl) (da_cons (de_var (pv 0)) (da_cons (de_neg (de_int)) (da_nil)))⟩
def lx__law_refusals_1 : Arguments × Expr × Scope := lamX (exAt [0, 1] (exprS (stAt [0] (defBody s__law_refusals))))
theorem lf__law_refusals_1 : ∀ y ∈ lx__law_refusals_1.2.2.names, y.2 = .free → (defScope s__law_refusals).names.lookup y.1 = some .cell ∨ (defScope s__law_refusals).names.lookup y.1 = some .free := by decide +kernel
theorem ld__law_refusals_1 : ∃ j cp, lx__law_refusals_1.1.defaults = [.Constant (.int 0) j cp] := ⟨_, _, rfl⟩
theorem lh__law_refusals_1 : lx__law_refusals_1.1.kw_defaults = [] := rfl
theorem lo__law_refusals_1 (T : GT K mg t) {q : Str} {cells : List (Str × Addr)} : LamOk P w K mg t 9 ⟨lx__law_refusals_1.1, lx__law_refusals_1.2.1, lx__law_refusals_1.2.2, q, cloFrom cells lx__law_refusals_1.2.2.names []⟩ ["_law_world_here"] lt__law_refusals_1 := ⟨["_law_a"], rfl, ⟨(fun z => nomatch z), fun _ => ⟨_, rfl, fun t doc pm cv ctv => ⟨_, rfl, fun u => rfl⟩⟩⟩, NdefX.nscope_by (sc := lx__law_refusals_1.2.2) (by decide +kernel), rfl, fun base f c' A outer s H E hr =>
    de_callC (c_after T) (hr.mono (by decide)) (by rfl) (takes_of rfl rfl rfl rfl) (da_cons (de_var (pv 1)) (da_cons (de_neg (de_int)) (da_nil)))⟩
def lx__law_refusals_2 : Arguments × Expr × Scope := lamX (exAt [0, 2] (exprS (stAt [0] (defBody s__law_refusals))))
theorem lf__law_refusals_2 : ∀ y ∈ lx__law_refusals_2.2.2.names, y.2 = .free → (defScope s__law_refusals).names.lookup y.1 = some .cell ∨ (defScope s__law_refusals).names.lookup y.1 = some .free := by decide +kernel
theorem ld__law_refusals_2 : ∃ j cp, lx__law_refusals_2.1.defaults = [.Constant (.int 0) j cp] := ⟨_, _, rfl⟩
theorem lh__law_refusals_2 : lx__law_refusals_2.1.kw_defaults = [] := rfl
theorem lo__law_refusals_2 (T : GT K mg t) {q : Str} {cells : List (Str × Addr)} : LamOk P w K mg t 9 ⟨lx__law_refusals_2.1, lx__law_refusals_2.2.1, lx__law_refusals_2.2.2, q, cloFrom cells lx__law_refusals_2.2.2.names []⟩ ["_law_world_here"] lt__law_refusals_2 := ⟨["_law_b"], rfl, ⟨(fun z => nomatch z), fun _ => ⟨_, rfl, fun t doc pm cv ctv => ⟨_, rfl, fun u => rfl⟩⟩⟩, NdefX.nscope_by (sc := lx__law_refusals_2.2.2) (by decide +kernel), rfl, fun base f c' A outer s H E hr =>
    de_callC (c_period T) (hr.mono (by decide)) (by rfl) (takes_of rfl rfl rfl rfl) (da_cons (de_var (pv 1)) (da_nil))⟩
def lx__law_refusals_3 : Arguments × Expr × Scope := lamX (exAt [0, 1, 0] (exprS (stAt [1] (defBody s__law_refusals))))
theorem lf__law_refusals_3 : ∀ y ∈ lx__law_refusals_3.2.2.names, y.2 = .free → (defScope s__law_refusals).names.lookup y.1 = some .cell ∨ (defScope s__law_refusals).names.lookup y.1 = some .free := by decide +kernel
theorem ld__law_refusals_3 : ∀ env : PySem.Env, defaultsOf lx__law_refusals_3.1 env = ([], []) := fun _ => rfl
theorem lh__law_refusals_3 : lx__law_refusals_3.1.defaults.isEmpty = true := rfl
theorem lo__law_refusals_3 (T : GT K mg t) {q : Str} {cells : List (Str × Addr)} : LamOk P w K mg t 9 ⟨lx__law_refusals_3.1, lx__law_refusals_3.2.1, lx__law_refusals_3.2.2, q, cloFrom cells lx__law_refusals_3.2.2.names []⟩ ["_law_world_here"] lt__law_refusals_3 := ⟨[], rfl, ⟨fun _ => ⟨rfl, fun _ _ _ _ => rfl⟩, (fun z => nomatch z)⟩, NdefX.nscope_by (sc := lx__law_refusals_3.2.2) (by decide +kernel), rfl, fun base f c' A outer s H E hr =>
    de_callC (c_turns T) (hr.mono (by decide)) (by rfl) (takes_of rfl rfl rfl rfl) (da_cons (de_var (pv 0)) (da_nil))⟩
def lx__law_refusals_4 : Arguments × Expr × Scope := lamX (exAt [0, 1, 1] (exprS (stAt [1] (defBody s__law_refusals))))
theorem lf__law_refusals_4 : ∀ y ∈ lx__law_refusals_4.2.2.names, y.2 = .free → (defScope s__law_refusals).names.lookup y.1 = some .cell ∨ (defScope s__law_refusals).names.lookup y.1 = some .free := by decide +kernel
theorem ld__law_refusals_4 : ∃ j cp, lx__law_refusals_4.1.defaults = [.Constant (.int 0) j cp] := ⟨_, _, rfl⟩
theorem lh__law_refusals_4 : lx__law_refusals_4.1.kw_defaults = [] := rfl
theorem lo__law_refusals_4 (T : GT K mg t) {q : Str} {cells : List (Str × Addr)} : LamOk P w K mg t 9 ⟨lx__law_refusals_4.1, lx__law_refusals_4.2.1, lx__law_refusals_4.2.2, q, cloFrom cells lx__law_refusals_4.2.2.names []⟩ ["_law_world_here"] lt__law_refusals_4 := ⟨["_law_a"], rfl, ⟨(fun z => nomatch z), fun _ => ⟨_, rfl, fun t doc pm cv ctv => ⟨_, rfl, fun u => rfl⟩⟩⟩, NdefX.nscope_by (sc := lx__law_refusals_4.2.2) (by decide +kernel), rfl, fun base f c' A outer s H E hr =>
    de_callC (c_often T) (hr.mono (by decide)) (by rfl) (takes_of rfl rfl rfl rfl) (da_cons (de_var (pv 1)) (da_cons (de_neg (de_int)) (da_nil)))⟩
def lx__law_refusals_5 : Arguments × Expr × Scope := lamX (exAt [0, 1, 2] (exprS (stAt [1] (defBody s__law_refusals))))
theorem lf__law_refusals_5 : ∀ y ∈ lx__law_refusals_5.2.2.names, y.2 = .free → (defScope s__law_refusals).names.lookup y.1 = some .cell ∨ (defScope s__law_refusals).names.lookup y.1 = some .free := by decide +kernel
theorem ld__law_refusals_5 : ∃ j cp, lx__law_refusals_5.1.defaults = [.Constant (.int 0) j cp] := ⟨_, _, rfl⟩
theorem lh__law_refusals_5 : lx__law_refusals_5.1.kw_defaults = [] := rfl
theorem lo__law_refusals_5 (T : GT K mg t) {q : Str} {cells : List (Str × Addr)} : LamOk P w K mg t 9 ⟨lx__law_refusals_5.1, lx__law_refusals_5.2.1, lx__law_refusals_5.2.2, q, cloFrom cells lx__law_refusals_5.2.2.names []⟩ ["_law_world_here"] lt__law_refusals_5 := ⟨["_law_b"], rfl, ⟨(fun z => nomatch z), fun _ => ⟨_, rfl, fun t doc pm cv ctv => ⟨_, rfl, fun u => rfl⟩⟩⟩, NdefX.nscope_by (sc := lx__law_refusals_5.2.2) (by decide +kernel), rfl, fun base f c' A outer s H E hr =>
    de_callC (c_breaks T) (hr.mono (by decide)) (by rfl) (takes_of rfl rfl rfl rfl) (da_cons (de_var (pv 1)) (da_cons (de_tup (da_cons (de_neg (de_int)) (da_nil))) (da_nil)))⟩
def lx__law_refusals_6 : Arguments × Expr × Scope := lamX (exAt [0, 1] (exprS (stAt [2] (defBody s__law_refusals))))
theorem lf__law_refusals_6 : ∀ y ∈ lx__law_refusals_6.2.2.names, y.2 = .free → (defScope s__law_refusals).names.lookup y.1 = some .cell ∨ (defScope s__law_refusals).names.lookup y.1 = some .free := by decide +kernel
theorem ld__law_refusals_6 : ∀ env : PySem.Env, defaultsOf lx__law_refusals_6.1 env = ([], []) := fun _ => rfl
theorem lh__law_refusals_6 : lx__law_refusals_6.1.defaults.isEmpty = true := rfl
theorem lo__law_refusals_6 (T : GT K mg t) {q : Str} {cells : List (Str × Addr)} : LamOk P w K mg t 9 ⟨lx__law_refusals_6.1, lx__law_refusals_6.2.1, lx__law_refusals_6.2.2, q, cloFrom cells lx__law_refusals_6.2.2.names []⟩ ["_law_world_here"] lt__law_refusals_6 := ⟨[], rfl, ⟨fun _ => ⟨rfl, fun _ _ _ _ => rfl⟩, (fun z => nomatch z)⟩, NdefX.nscope_by (sc := lx__law_refusals_6.2.2) (by decide +kernel), rfl, fun base f c' A outer s H E hr =>
    de_callC (c_fewest_bars T) (hr.mono (by decide)) (by rfl) (takes_of rfl rfl rfl rfl) (da_cons (de_var (pv 0)) (da_cons (de_tup (da_cons (de_neg (de_int)) (da_nil))) (da_nil)))⟩
def lx__law_refusals_7 : Arguments × Expr × Scope := lamX (exAt [0, 1, 0] (exprS (stAt [3] (defBody s__law_refusals))))
theorem lf__law_refusals_7 : ∀ y ∈ lx__law_refusals_7.2.2.names, y.2 = .free → (defScope s__law_refusals).names.lookup y.1 = some .cell ∨ (defScope s__law_refusals).names.lookup y.1 = some .free := by decide +kernel
theorem ld__law_refusals_7 : ∀ env : PySem.Env, defaultsOf lx__law_refusals_7.1 env = ([], []) := fun _ => rfl
theorem lh__law_refusals_7 : lx__law_refusals_7.1.defaults.isEmpty = true := rfl
theorem lo__law_refusals_7 (T : GT K mg t) {q : Str} {cells : List (Str × Addr)} : LamOk P w K mg t 9 ⟨lx__law_refusals_7.1, lx__law_refusals_7.2.1, lx__law_refusals_7.2.2, q, cloFrom cells lx__law_refusals_7.2.2.names []⟩ ["_law_world_here"] lt__law_refusals_7 := ⟨[], rfl, ⟨fun _ => ⟨rfl, fun _ _ _ _ => rfl⟩, (fun z => nomatch z)⟩, NdefX.nscope_by (sc := lx__law_refusals_7.2.2) (by decide +kernel), rfl, fun base f c' A outer s H E hr =>
    de_callC (c_fewest_jars T) (hr.mono (by decide)) (by rfl) (takes_of rfl rfl rfl rfl) (da_cons (de_var (pv 0)) (da_cons (de_tup (da_cons (de_neg (de_int)) (da_nil))) (da_cons (de_str [120]) (da_nil))))⟩
def lx__law_refusals_8 : Arguments × Expr × Scope := lamX (exAt [0, 1, 1] (exprS (stAt [3] (defBody s__law_refusals))))
theorem lf__law_refusals_8 : ∀ y ∈ lx__law_refusals_8.2.2.names, y.2 = .free → (defScope s__law_refusals).names.lookup y.1 = some .cell ∨ (defScope s__law_refusals).names.lookup y.1 = some .free := by decide +kernel
theorem ld__law_refusals_8 : ∃ j cp, lx__law_refusals_8.1.defaults = [.Constant (.int 0) j cp] := ⟨_, _, rfl⟩
theorem lh__law_refusals_8 : lx__law_refusals_8.1.kw_defaults = [] := rfl
theorem lo__law_refusals_8 (T : GT K mg t) {q : Str} {cells : List (Str × Addr)} : LamOk P w K mg t 9 ⟨lx__law_refusals_8.1, lx__law_refusals_8.2.1, lx__law_refusals_8.2.2, q, cloFrom cells lx__law_refusals_8.2.2.names []⟩ ["_law_world_here"] lt__law_refusals_8 := ⟨["_law_a"], rfl, ⟨(fun z => nomatch z), fun _ => ⟨_, rfl, fun t doc pm cv ctv => ⟨_, rfl, fun u => rfl⟩⟩⟩, NdefX.nscope_by (sc := lx__law_refusals_8.2.2) (by decide +kernel), rfl, fun base f c' A outer s H E hr =>
    de_callC (c_how_many T) (hr.mono (by decide)) (by rfl) (takes_of rfl rfl rfl rfl) (da_cons (de_var (pv 1)) (da_nil))⟩
def lx__law_refusals_9 : Arguments × Expr × Scope := lamX (exAt [0, 1, 2] (exprS (stAt [3] (defBody s__law_refusals))))
theorem lf__law_refusals_9 : ∀ y ∈ lx__law_refusals_9.2.2.names, y.2 = .free → (defScope s__law_refusals).names.lookup y.1 = some .cell ∨ (defScope s__law_refusals).names.lookup y.1 = some .free := by decide +kernel
theorem ld__law_refusals_9 : ∃ j cp, lx__law_refusals_9.1.defaults = [.Constant (.int 0) j cp] := ⟨_, _, rfl⟩
theorem lh__law_refusals_9 : lx__law_refusals_9.1.kw_defaults = [] := rfl
theorem lo__law_refusals_9 (T : GT K mg t) {q : Str} {cells : List (Str × Addr)} : LamOk P w K mg t 9 ⟨lx__law_refusals_9.1, lx__law_refusals_9.2.1, lx__law_refusals_9.2.2, q, cloFrom cells lx__law_refusals_9.2.2.names []⟩ ["_law_world_here"] lt__law_refusals_9 := ⟨["_law_b"], rfl, ⟨(fun z => nomatch z), fun _ => ⟨_, rfl, fun t doc pm cv ctv => ⟨_, rfl, fun u => rfl⟩⟩⟩, NdefX.nscope_by (sc := lx__law_refusals_9.2.2) (by decide +kernel), rfl, fun base f c' A outer s H E hr =>
    de_callC (c_sources T) (hr.mono (by decide)) (by rfl) (takes_of rfl rfl rfl rfl) (da_cons (de_var (pv 1)) (da_nil))⟩
def lx__law_refusals_10 : Arguments × Expr × Scope := lamX (exAt [0, 1, 1, 0] (exprS (stAt [4] (defBody s__law_refusals))))
theorem lf__law_refusals_10 : ∀ y ∈ lx__law_refusals_10.2.2.names, y.2 = .free → (defScope s__law_refusals).names.lookup y.1 = some .cell ∨ (defScope s__law_refusals).names.lookup y.1 = some .free := by decide +kernel
theorem ld__law_refusals_10 : ∀ env : PySem.Env, defaultsOf lx__law_refusals_10.1 env = ([], []) := fun _ => rfl
theorem lh__law_refusals_10 : lx__law_refusals_10.1.defaults.isEmpty = true := rfl
theorem lo__law_refusals_10 (T : GT K mg t) {q : Str} {cells : List (Str × Addr)} : LamOk P w K mg t 9 ⟨lx__law_refusals_10.1, lx__law_refusals_10.2.1, lx__law_refusals_10.2.2, q, cloFrom cells lx__law_refusals_10.2.2.names []⟩ ["_law_world_here"] lt__law_refusals_10 := ⟨[], rfl, ⟨fun _ => ⟨rfl, fun _ _ _ _ => rfl⟩, (fun z => nomatch z)⟩, NdefX.nscope_by (sc := lx__law_refusals_10.2.2) (by decide +kernel), rfl, fun base f c' A outer s H E hr =>
    de_callC (c_written T) (hr.mono (by decide)) (by rfl) (takes_of rfl rfl rfl rfl) (da_cons (de_var (pv 0)) (da_nil))⟩
theorem lj__law_refusals_2 : ∀ n q, LT__law_refusals n = some q → 2 ∉ q.js := fun n q h => by
  unfold LT__law_refusals at h
  split at h <;> first | (cases h; decide) | cases h
def Lf__law_refusals : Str → List (Str × Addr) → Nat → LamD := fun q cells k => match k with
  | 0 => ⟨lx__law_refusals_0.1, lx__law_refusals_0.2.1, lx__law_refusals_0.2.2, q, cloFrom cells lx__law_refusals_0.2.2.names []⟩
  | 1 => ⟨lx__law_refusals_1.1, lx__law_refusals_1.2.1, lx__law_refusals_1.2.2, q, cloFrom cells lx__law_refusals_1.2.2.names []⟩
  | 2 => ⟨lx__law_refusals_2.1, lx__law_refusals_2.2.1, lx__law_refusals_2.2.2, q, cloFrom cells lx__law_refusals_2.2.2.names []⟩
  | 3 => ⟨lx__law_refusals_3.1, lx__law_refusals_3.2.1, lx__law_refusals_3.2.2, q, cloFrom cells lx__law_refusals_3.2.2.names []⟩
  | 4 => ⟨lx__law_refusals_4.1, lx__law_refusals_4.2.1, lx__law_refusals_4.2.2, q, cloFrom cells lx__law_refusals_4.2.2.names []⟩
  | 5 => ⟨lx__law_refusals_5.1, lx__law_refusals_5.2.1, lx__law_refusals_5.2.2, q, cloFrom cells lx__law_refusals_5.2.2.names []⟩
  | 6 => ⟨lx__law_refusals_6.1, lx__law_refusals_6.2.1, lx__law_refusals_6.2.2, q, cloFrom cells lx__law_refusals_6.2.2.names []⟩
  | 7 => ⟨lx__law_refusals_7.1, lx__law_refusals_7.2.1, lx__law_refusals_7.2.2, q, cloFrom cells lx__law_refusals_7.2.2.names []⟩
  | 8 => ⟨lx__law_refusals_8.1, lx__law_refusals_8.2.1, lx__law_refusals_8.2.2, q, cloFrom cells lx__law_refusals_8.2.2.names []⟩
  | 9 => ⟨lx__law_refusals_9.1, lx__law_refusals_9.2.1, lx__law_refusals_9.2.2, q, cloFrom cells lx__law_refusals_9.2.2.names []⟩
  | 10 => ⟨lx__law_refusals_10.1, lx__law_refusals_10.2.1, lx__law_refusals_10.2.2, q, cloFrom cells lx__law_refusals_10.2.2.names []⟩
  | _ => ⟨lx__law_refusals_0.1, lx__law_refusals_0.2.1, lx__law_refusals_0.2.2, q, []⟩
def q__law_refusals : Str := (envOfC "_law_refusals" (defScope s__law_refusals) 0 0 .none).qual ++ "<lambda>"
theorem c__law_refusals (T : GT K mg t) {p2 : Addr} (D2 : DefIsT K mg base "_law_refusals" s__law_refusals p2) : Cal P w K mg base 12 "_law_refusals" 1 t (@f__law_refusals ⟨p2, q__law_refusals⟩) :=
  Cal.lam (k := 11) D2 sc__law_refusals (fun _ _ _ _ _ _ us hl => match us, hl with | [_], _ => rfl) fun f c TB A outer s H E hr => by
    letI C0 : LamC := (⟨Lf__law_refusals ((envOfC "_law_refusals" (defScope s__law_refusals) s.heap.objs.size f (.ref c)).qual ++ "<lambda>") (envOfC "_law_refusals" (defScope s__law_refusals) s.heap.objs.size f (.ref c)).cells, p2, (envOfC "_law_refusals" (defScope s__law_refusals) s.heap.objs.size f (.ref c)).qual ++ "<lambda>"⟩ : LamC)
    letI C2 : Lam2C := ⟨p2, q__law_refusals⟩
    have hL : LamsOk (cxOf (L2.CX P w) P w K mg base n__law_refusals "_law_refusals" (defScope s__law_refusals) f (.ref c) A outer s H E) t 9 LT__law_refusals := ⟨fun _ => rfl, fun k q h => by
      unfold LT__law_refusals at h
      split at h
      · cases h; exact ⟨lx__law_refusals_0.1, lx__law_refusals_0.2.1, lx__law_refusals_0.2.2, ["_law_world_here"], rfl, lo__law_refusals_0 T, lf__law_refusals_0, by decide +kernel, rfl⟩
      · cases h; exact ⟨lx__law_refusals_1.1, lx__law_refusals_1.2.1, lx__law_refusals_1.2.2, ["_law_world_here"], rfl, lo__law_refusals_1 T, lf__law_refusals_1, by decide +kernel, rfl⟩
      · cases h; exact ⟨lx__law_refusals_2.1, lx__law_refusals_2.2.1, lx__law_refusals_2.2.2, ["_law_world_here"], rfl, lo__law_refusals_2 T, lf__law_refusals_2, by decide +kernel, rfl⟩
      · cases h; exact ⟨lx__law_refusals_3.1, lx__law_refusals_3.2.1, lx__law_refusals_3.2.2, ["_law_world_here"], rfl, lo__law_refusals_3 T, lf__law_refusals_3, by decide +kernel, rfl⟩
      · cases h; exact ⟨lx__law_refusals_4.1, lx__law_refusals_4.2.1, lx__law_refusals_4.2.2, ["_law_world_here"], rfl, lo__law_refusals_4 T, lf__law_refusals_4, by decide +kernel, rfl⟩
      · cases h; exact ⟨lx__law_refusals_5.1, lx__law_refusals_5.2.1, lx__law_refusals_5.2.2, ["_law_world_here"], rfl, lo__law_refusals_5 T, lf__law_refusals_5, by decide +kernel, rfl⟩
      · cases h; exact ⟨lx__law_refusals_6.1, lx__law_refusals_6.2.1, lx__law_refusals_6.2.2, ["_law_world_here"], rfl, lo__law_refusals_6 T, lf__law_refusals_6, by decide +kernel, rfl⟩
      · cases h; exact ⟨lx__law_refusals_7.1, lx__law_refusals_7.2.1, lx__law_refusals_7.2.2, ["_law_world_here"], rfl, lo__law_refusals_7 T, lf__law_refusals_7, by decide +kernel, rfl⟩
      · cases h; exact ⟨lx__law_refusals_8.1, lx__law_refusals_8.2.1, lx__law_refusals_8.2.2, ["_law_world_here"], rfl, lo__law_refusals_8 T, lf__law_refusals_8, by decide +kernel, rfl⟩
      · cases h; exact ⟨lx__law_refusals_9.1, lx__law_refusals_9.2.1, lx__law_refusals_9.2.2, ["_law_world_here"], rfl, lo__law_refusals_9 T, lf__law_refusals_9, by decide +kernel, rfl⟩
      · cases h; exact ⟨lx__law_refusals_10.1, lx__law_refusals_10.2.1, lx__law_refusals_10.2.2, ["_law_world_here"], rfl, lo__law_refusals_10 T, lf__law_refusals_10, by decide +kernel, rfl⟩
      · cases h⟩
    have hcd0 : (cxOf (L2.CX P w) P w K mg base n__law_refusals "_law_refusals" (defScope s__law_refusals) f (.ref c) A outer s H E).env.code = .ref c := rfl
    have hP0 : C0.P = p2 := rfl
    have hq0 : C0.q = (cxOf (L2.CX P w) P w K mg base n__law_refusals "_law_refusals" (defScope s__law_refusals) f (.ref c) A outer s H E).env.qual ++ "<lambda>" := rfl
    have hk0 : C0.L 0 = ⟨lx__law_refusals_0.1, lx__law_refusals_0.2.1, lx__law_refusals_0.2.2, (cxOf (L2.CX P w) P w K mg base n__law_refusals "_law_refusals" (defScope s__law_refusals) f (.ref c) A outer s H E).env.qual ++ "<lambda>", cloFrom (cxOf (L2.CX P w) P w K mg base n__law_refusals "_law_refusals" (defScope s__law_refusals) f (.ref c) A outer s H E).env.cells lx__law_refusals_0.2.2.names []⟩ := rfl
    have hk1 : C0.L 1 = ⟨lx__law_refusals_1.1, lx__law_refusals_1.2.1, lx__law_refusals_1.2.2, (cxOf (L2.CX P w) P w K mg base n__law_refusals "_law_refusals" (defScope s__law_refusals) f (.ref c) A outer s H E).env.qual ++ "<lambda>", cloFrom (cxOf (L2.CX P w) P w K mg base n__law_refusals "_law_refusals" (defScope s__law_refusals) f (.ref c) A outer s H E).env.cells lx__law_refusals_1.2.2.names []⟩ := rfl
    have hk2 : C0.L 2 = ⟨lx__law_refusals_2.1, lx__law_refusals_2.2.1, lx__law_refusals_2.2.2, (cxOf (L2.CX P w) P w K mg base n__law_refusals "_law_refusals" (defScope s__law_refusals) f (.ref c) A outer s H E).env.qual ++ "<lambda>", cloFrom (cxOf (L2.CX P w) P w K mg base n__law_refusals "_law_refusals" (defScope s__law_refusals) f (.ref c) A outer s H E).env.cells lx__law_refusals_2.2.2.names []⟩ := rfl
    have hk3 : C0.L 3 = ⟨lx__law_refusals_3.1, lx__law_refusals_3.2.1, lx__law_refusals_3.2.2, (cxOf (L2.CX P w) P w K mg base n__law_refusals "_law_refusals" (defScope s__law_refusals) f (.ref c) A outer s H E).env.qual ++ "<lambda>", cloFrom (cxOf (L2.CX P w) P w K mg base n__law_refusals "_law_refusals" (defScope s__law_refusals) f (.ref c) A outer s H E).env.cells lx__law_refusals_3.2.2.names []⟩ := rfl
    have hk4 : C0.L 4 = ⟨lx__law_refusals_4.1, lx__law_refusals_4.2.1, lx__law_refusals_4.2.2, (cxOf (L2.CX P w) P w K mg base n__law_refusals "_law_refusals" (defScope s__law_refusals) f (.ref c) A outer s H E).env.qual ++ "<lambda>", cloFrom (cxOf (L2.CX P w) P w K mg base n__law_refusals "_law_refusals" (defScope s__law_refusals) f (.ref c) A outer s H E).env.cells lx__law_refusals_4.2.2.names []⟩ := rfl
    have hk5 : C0.L 5 = ⟨lx__law_refusals_5.1, lx__law_refusals_5.2.1, lx__law_refusals_5.2.2, (cxOf (L2.CX P w) P w K mg base n__law_refusals "_law_refusals" (defScope s__law_refusals) f (.ref c) A outer s H E).env.qual ++ "<lambda>", cloFrom (cxOf (L2.CX P w) P w K mg base n__law_refusals "_law_refusals" (defScope s__law_refusals) f (.ref c) A outer s H E).env.cells lx__law_refusals_5.2.2.names []⟩ := rfl
    have hk6 : C0.L 6 = ⟨lx__law_refusals_6.1, lx__law_refusals_6.2.1, lx__law_refusals_6.2.2, (cxOf (L2.CX P w) P w K mg base n__law_refusals "_law_refusals" (defScope s__law_refusals) f (.ref c) A outer s H E).env.qual ++ "<lambda>", cloFrom (cxOf (L2.CX P w) P w K mg base n__law_refusals "_law_refusals" (defScope s__law_refusals) f (.ref c) A outer s H E).env.cells lx__law_refusals_6.2.2.names []⟩ := rfl
    have hk7 : C0.L 7 = ⟨lx__law_refusals_7.1, lx__law_refusals_7.2.1, lx__law_refusals_7.2.2, (cxOf (L2.CX P w) P w K mg base n__law_refusals "_law_refusals" (defScope s__law_refusals) f (.ref c) A outer s H E).env.qual ++ "<lambda>", cloFrom (cxOf (L2.CX P w) P w K mg base n__law_refusals "_law_refusals" (defScope s__law_refusals) f (.ref c) A outer s H E).env.cells lx__law_refusals_7.2.2.names []⟩ := rfl
    have hk8 : C0.L 8 = ⟨lx__law_refusals_8.1, lx__law_refusals_8.2.1, lx__law_refusals_8.2.2, (cxOf (L2.CX P w) P w K mg base n__law_refusals "_law_refusals" (defScope s__law_refusals) f (.ref c) A outer s H E).env.qual ++ "<lambda>", cloFrom (cxOf (L2.CX P w) P w K mg base n__law_refusals "_law_refusals" (defScope s__law_refusals) f (.ref c) A outer s H E).env.cells lx__law_refusals_8.2.2.names []⟩ := rfl
    have hk9 : C0.L 9 = ⟨lx__law_refusals_9.1, lx__law_refusals_9.2.1, lx__law_refusals_9.2.2, (cxOf (L2.CX P w) P w K mg base n__law_refusals "_law_refusals" (defScope s__law_refusals) f (.ref c) A outer s H E).env.qual ++ "<lambda>", cloFrom (cxOf (L2.CX P w) P w K mg base n__law_refusals "_law_refusals" (defScope s__law_refusals) f (.ref c) A outer s H E).env.cells lx__law_refusals_9.2.2.names []⟩ := rfl
    have hk10 : C0.L 10 = ⟨lx__law_refusals_10.1, lx__law_refusals_10.2.1, lx__law_refusals_10.2.2, (cxOf (L2.CX P w) P w K mg base n__law_refusals "_law_refusals" (defScope s__law_refusals) f (.ref c) A outer s H E).env.qual ++ "<lambda>", cloFrom (cxOf (L2.CX P w) P w K mg base n__law_refusals "_law_refusals" (defScope s__law_refusals) f (.ref c) A outer s H E).env.cells lx__law_refusals_10.2.2.names []⟩ := rfl
    have hd : DSs (cxOf (L2.CX P w) P w K mg base n__law_refusals "_law_refusals" (defScope s__law_refusals) f (.ref c) A outer s H E) (t.wi E) (defBody s__law_refusals) (@b__law_refusals C0) :=
      dss_cons (ds_set (i := 1) sc__law_refusals.nd rfl (by first | exact Or.inl rfl | exact Or.inr rfl) (dc_own (da_cons (de_lam0EN (jt := 2) (C := C0) (lx := lx__law_refusals_0) (by kernel_rfl) (by kernel_rfl) TB hcd0 hP0 hq0 hk0 lf__law_refusals_0 (ld__law_refusals_0 _) lh__law_refusals_0) (da_cons (de_lam1EN (jt := 2) (C := C0) (lx := lx__law_refusals_1) (by kernel_rfl) (by kernel_rfl) TB hcd0 hP0 hq0 hk1 lf__law_refusals_1 ld__law_refusals_1 lh__law_refusals_1) (da_cons (de_lam1EN (jt := 2) (C := C0) (lx := lx__law_refusals_2) (by kernel_rfl) (by kernel_rfl) TB hcd0 hP0 hq0 hk2 lf__law_refusals_2 ld__law_refusals_2 lh__law_refusals_2) (da_nil)))))) (dss_cons (ds_set (i := 1) sc__law_refusals.nd rfl (by first | exact Or.inl rfl | exact Or.inr rfl) (dc_cat (dk_var (pv 1)) ((de_lst (da_cons (de_lam0EN (jt := 2) (C := C0) (lx := lx__law_refusals_3) (by kernel_rfl) (by kernel_rfl) TB hcd0 hP0 hq0 hk3 lf__law_refusals_3 (ld__law_refusals_3 _) lh__law_refusals_3) (da_cons (de_lam1EN (jt := 2) (C := C0) (lx := lx__law_refusals_4) (by kernel_rfl) (by kernel_rfl) TB hcd0 hP0 hq0 hk4 lf__law_refusals_4 ld__law_refusals_4 lh__law_refusals_4) (da_cons (de_lam1EN (jt := 2) (C := C0) (lx := lx__law_refusals_5) (by kernel_rfl) (by kernel_rfl) TB hcd0 hP0 hq0 hk5 lf__law_refusals_5 ld__law_refusals_5 lh__law_refusals_5) (da_nil))))).k))) (dss_cons (ds_appD (i := 1) (pv 1) (de_lam0EN (jt := 2) (C := C0) (lx := lx__law_refusals_6) (by kernel_rfl) (by kernel_rfl) TB hcd0 hP0 hq0 hk6 lf__law_refusals_6 (ld__law_refusals_6 _) lh__law_refusals_6)) (dss_cons (ds_set (i := 1) sc__law_refusals.nd rfl (by first | exact Or.inl rfl | exact Or.inr rfl) (dc_cat (dk_var (pv 1)) ((de_lst (da_cons (de_lam0EN (jt := 2) (C := C0) (lx := lx__law_refusals_7) (by kernel_rfl) (by kernel_rfl) TB hcd0 hP0 hq0 hk7 lf__law_refusals_7 (ld__law_refusals_7 _) lh__law_refusals_7) (da_cons (de_lam1EN (jt := 2) (C := C0) (lx := lx__law_refusals_8) (by kernel_rfl) (by kernel_rfl) TB hcd0 hP0 hq0 hk8 lf__law_refusals_8 ld__law_refusals_8 lh__law_refusals_8) (da_cons (de_lam1EN (jt := 2) (C := C0) (lx := lx__law_refusals_9) (by kernel_rfl) (by kernel_rfl) TB hcd0 hP0 hq0 hk9 lf__law_refusals_9 ld__law_refusals_9 lh__law_refusals_9) (da_nil))))).k))) (dss_one (ds_ret (de_lcKind (t := t) (k := 2) rfl (ki__law_kind T) hL (hr.mono (by decide)) rfl sc__law_refusals.nd (di_any (de_add (dk_var (pv 1)) ((de_lst (da_cons (de_lam0EN (jt := 2) (C := C0) (lx := lx__law_refusals_10) (by kernel_rfl) (by kernel_rfl) TB hcd0 hP0 hq0 hk10 lf__law_refusals_10 (ld__law_refusals_10 _) lh__law_refusals_10) (da_nil))).k))) (blkOk_by (N := n__law_refusals) (sc := defScope s__law_refusals) (by decide +kernel)) rfl (by rfl) lj__law_refusals_2 (by rfl) (hg2 := by intros; rfl) (hv2 := by intros; exact Or.inl rfl) (hl2 := by intros; rfl)))))))
    exact ⟨@b__law_refusals C0, hd, fun ds m _ => indF_ok (b := fun C => @b__law_refusals C) C0 rfl rfl ds m⟩
def n__law_mix : List Str := ["_law_script", "_law_seed", "_law_mixed", "_law_cell"]
theorem sc__law_mix : FnScope n__law_mix ["_law_script", "_law_seed"] (defScope s__law_mix) := ⟨rfl, rfl, rfl, by decide +kernel, rfl, by decide +kernel, by decide +kernel⟩
theorem c__law_mix (T : GT K mg t) : MixOk P w K mg base 1 "_law_mix" :=
  MixOk.of (k := 0) T.d__law_mix sc__law_mix (fun _ _ _ _ _ _ us hl => match us, hl with | [_, _], _ => rfl) rfl rfl fun f cdv A outer s H E hr =>
    pss_cons (ps_set (i := 2) sc__law_mix.nd rfl (Or.inl rfl) (pv 1)) (pss_cons (ps_for (passes_of rfl) rfl (pi_list (pv 0)) (pg_name (i := 3) sc__law_mix.nd rfl (Or.inl rfl)) (pss_one (ps_set (i := 2) sc__law_mix.nd rfl (Or.inl rfl) (pe_op op_mod (pe_op op_add (pe_op op_add (pe_op op_mul (pv 2) pe_int) (pe_op op_mod (pv 3) pe_int)) pe_int) pe_int))))
    (pss_one (ps_ret (pe_lst (pa_cons (pv 2) (pa_cons (pe_callTy call_list_of (by rfl) T.z_list PyProof.Rows.boot_list (pa_cons (pv 0) pa_nil)) (pa_cons pe_int pa_nil)))))))
theorem sc_law : FnScope n_law ["_law_script"] (defScope s_law) := ⟨rfl, rfl, rfl, by decide +kernel, rfl, by decide +kernel, by decide +kernel⟩
def lx_law_0 : Arguments × Expr × Scope := lamX (exAt [0, 0] (exprS (stAt [1, 14] (defBody s_law))))
theorem lf_law_0 : ∀ y ∈ lx_law_0.2.2.names, y.2 = .free → (defScope s_law).names.lookup y.1 = some .cell ∨ (defScope s_law).names.lookup y.1 = some .free := by decide +kernel
theorem ld_law_0 : ∀ env : PySem.Env, defaultsOf lx_law_0.1 env = ([], []) := fun _ => rfl
theorem lh_law_0 : lx_law_0.1.defaults.isEmpty = true := rfl
theorem lo_law_0 (T : GT K mg t) {q : Str} {cells : List (Str × Addr)} : LamOk P w K mg t 6 ⟨lx_law_0.1, lx_law_0.2.1, lx_law_0.2.2, q, cloFrom cells lx_law_0.2.2.names []⟩ ["_law_bad"] lt_law_0 := ⟨[], rfl, ⟨fun _ => ⟨rfl, fun _ _ _ _ => rfl⟩, (fun z => nomatch z)⟩, NdefX.nscope_by (sc := lx_law_0.2.2) (by decide +kernel), rfl, fun base f c' A outer s H E hr =>
    de_make (c_Shelf___init__ T) (hr.mono (by decide)) (takes_of rfl rfl rfl rfl) (by rfl) (da_cons (de_var (pv 0)) (da_nil))⟩
def lx_law_1 : Arguments × Expr × Scope := lamX (exAt [0, 1] (exprS (stAt [1, 14] (defBody s_law))))
theorem lf_law_1 : ∀ y ∈ lx_law_1.2.2.names, y.2 = .free → (defScope s_law).names.lookup y.1 = some .cell ∨ (defScope s_law).names.lookup y.1 = some .free := by decide +kernel
theorem ld_law_1 : ∃ j cp, lx_law_1.1.defaults = [.Constant (.int 0) j cp] := ⟨_, _, rfl⟩
theorem lh_law_1 : lx_law_1.1.kw_defaults = [] := rfl
theorem lo_law_1 (T : GT K mg t) {q : Str} {cells : List (Str × Addr)} : LamOk P w K mg t 6 ⟨lx_law_1.1, lx_law_1.2.1, lx_law_1.2.2, q, cloFrom cells lx_law_1.2.2.names []⟩ ["_law_bad"] lt_law_1 := ⟨["_law_a"], rfl, ⟨(fun z => nomatch z), fun _ => ⟨_, rfl, fun t doc pm cv ctv => ⟨_, rfl, fun u => rfl⟩⟩⟩, NdefX.nscope_by (sc := lx_law_1.2.2) (by decide +kernel), rfl, fun base f c' A outer s H E hr =>
    de_callC (c_again T) (hr.mono (by decide)) (by rfl) (takes_of rfl rfl rfl rfl) (da_cons (de_var (pv 1)) (da_cons (de_lst (da_cons (de_tup (da_nil)) (da_nil))) (da_nil)))⟩
theorem lj_law_12 : ∀ n q, LT_law n = some q → 12 ∉ q.js := fun n q h => by
  unfold LT_law at h
  split at h <;> first | (cases h; decide) | cases h
def Lf_law : Str → List (Str × Addr) → Nat → LamD := fun q cells k => match k with
  | 0 => ⟨lx_law_0.1, lx_law_0.2.1, lx_law_0.2.2, q, cloFrom cells lx_law_0.2.2.names []⟩
  | 1 => ⟨lx_law_1.1, lx_law_1.2.1, lx_law_1.2.2, q, cloFrom cells lx_law_1.2.2.names []⟩
  | _ => ⟨lx_law_0.1, lx_law_0.2.1, lx_law_0.2.2, q, []⟩
theorem law_body (T : GT K mg t) {f cL pL : Addr} (TB : LamX.TabB base mg cL pL) {p2 : Addr} (D2 : DefIsT K mg base "_law_refusals" s__law_refusals p2) (A : Around) (outer : List PySem.Env) (s : Shared) (H : Hp) (E : XK) (hr : Room 12 (A.deeper (envOfC "law" (defScope s_law) s.heap.objs.size f (.ref cL)))) : PSs (cxOf (L2.CX P w) P w K mg base n_law "law" (defScope s_law) f (.ref cL) A outer s H E) (defBody s_law) (tSeq (tAsg (tCallS (spMix K) (WE (t.wi E).W) (tCons (tVar 0) (tCons (tC (.int 3)) tNil))) (L2.gName 1)) (rdS (P, w, mg) (t.wi E) (@b_law (⟨Lf_law ((envOfC "law" (defScope s_law) s.heap.objs.size f (.ref cL)).qual ++ "<lambda>") (envOfC "law" (defScope s_law) s.heap.objs.size f (.ref cL)).cells, pL, (envOfC "law" (defScope s_law) s.heap.objs.size f (.ref cL)).qual ++ "<lambda>"⟩ : LamC) ⟨p2, q__law_refusals⟩))) := by
  letI C0 : LamC := (⟨Lf_law ((envOfC "law" (defScope s_law) s.heap.objs.size f (.ref cL)).qual ++ "<lambda>") (envOfC "law" (defScope s_law) s.heap.objs.size f (.ref cL)).cells, pL, (envOfC "law" (defScope s_law) s.heap.objs.size f (.ref cL)).qual ++ "<lambda>"⟩ : LamC)
  have hL : LamsOk (cxOf (L2.CX P w) P w K mg base n_law "law" (defScope s_law) f (.ref cL) A outer s H E) t 6 LT_law := ⟨fun _ => rfl, fun k q h => by
    unfold LT_law at h
    split at h
    · cases h; exact ⟨lx_law_0.1, lx_law_0.2.1, lx_law_0.2.2, ["_law_bad"], rfl, lo_law_0 T, lf_law_0, by decide +kernel, rfl⟩
    · cases h; exact ⟨lx_law_1.1, lx_law_1.2.1, lx_law_1.2.2, ["_law_bad"], rfl, lo_law_1 T, lf_law_1, by decide +kernel, rfl⟩
    · cases h⟩
  have hcd0 : (cxOf (L2.CX P w) P w K mg base n_law "law" (defScope s_law) f (.ref cL) A outer s H E).env.code = .ref cL := rfl
  have hP0 : C0.P = pL := rfl
  have hq0 : C0.q = (cxOf (L2.CX P w) P w K mg base n_law "law" (defScope s_law) f (.ref cL) A outer s H E).env.qual ++ "<lambda>" := rfl
  have hk0 : C0.L 0 = ⟨lx_law_0.1, lx_law_0.2.1, lx_law_0.2.2, (cxOf (L2.CX P w) P w K mg base n_law "law" (defScope s_law) f (.ref cL) A outer s H E).env.qual ++ "<lambda>", cloFrom (cxOf (L2.CX P w) P w K mg base n_law "law" (defScope s_law) f (.ref cL) A outer s H E).env.cells lx_law_0.2.2.names []⟩ := rfl
  have hk1 : C0.L 1 = ⟨lx_law_1.1, lx_law_1.2.1, lx_law_1.2.2, (cxOf (L2.CX P w) P w K mg base n_law "law" (defScope s_law) f (.ref cL) A outer s H E).env.qual ++ "<lambda>", cloFrom (cxOf (L2.CX P w) P w K mg base n_law "law" (defScope s_law) f (.ref cL) A outer s H E).env.cells lx_law_1.2.2.names []⟩ := rfl
  exact pss_mix (c__law_mix T) (hr.mono (by decide)) (takes_of rfl rfl rfl rfl) (by rfl) sc_law.nd (pv 0) rfl (by first | exact Or.inl rfl | exact Or.inr rfl)
    (dss_cons (ds_for (passes_of rfl) rfl (di_range (by rfl) T.z_range (da_cons (de_int) (da_nil))) (dg_name (i := 2) sc_law.nd rfl (by first | exact Or.inl rfl | exact Or.inr rfl)) (dss_cons (ds_asg (de_callC (c__law_world T) (hr.mono (by decide)) (by rfl) (takes_of rfl rfl rfl rfl) (da_cons (de_var (pv 1)) (da_cons (de_int) (da_cons (de_int) (da_cons (de_int) (da_nil)))))) (dg_tup rfl (dgs_cons (dg_name (i := 3) sc_law.nd rfl (by first | exact Or.inl rfl | exact Or.inr rfl)) (dgs_cons (dg_name (i := 4) sc_law.nd rfl (by first | exact Or.inl rfl | exact Or.inr rfl)) (dgs_cons (dg_name (i := 5) sc_law.nd rfl (by first | exact Or.inl rfl | exact Or.inr rfl)) (dgs_nil)))) (tk_cons (tk_cons (tk_cons (tk_nil)))))) (dss_cons (ds_par (i := 6) (j := 7) rfl sc_law.nd rfl rfl (by decide) rfl rfl (dc_val (de_callC (c__law_next T) (hr.mono (by decide)) (by rfl) (takes_of rfl rfl rfl rfl) (da_cons (de_var (pv 1)) (da_cons (de_ix ((de_lst (da_cons (de_int) (da_cons (de_pow ((de_int).k) ((de_int).k)) (da_nil)))).k) ((de_callC (c__law_next T) (hr.mono (by decide)) (by rfl) (takes_of rfl rfl rfl rfl) (da_cons (de_var (pv 1)) (da_cons (de_int) (da_nil)))).k)) (da_nil))))) (dc_val (de_callC (c__law_next T) (hr.mono (by decide)) (by rfl) (takes_of rfl rfl rfl rfl) (da_cons (de_var (pv 1)) (da_cons (de_add ((de_len (by rfl) T.z_len (dk_var (pv 3))).k) ((de_int).k)) (da_nil))))) (by rfl)) (dss_cons (ds_set (i := 8) sc_law.nd rfl (by first | exact Or.inl rfl | exact Or.inr rfl) (dc_val (de_add ((de_add ((de_sl (dk_var (pv 3)) (do_none) (do_some (dk_var (pv 7)))).k) ((de_ix ((de_str [102, 65, 45, 122, 32, 49]).k) ((de_callC (c__law_next T) (hr.mono (by decide)) (by rfl) (takes_of rfl rfl rfl rfl) (da_cons (de_var (pv 1)) (da_cons (de_int) (da_nil)))).k)).k)).k) ((de_sl (dk_var (pv 3)) (do_some (dk_var (pv 7))) (do_none)).k)))) (dss_cons (ds_if (dt_ne hr.units ((de_callC (c__law_refusals T D2) (hr.mono (by decide)) (by rfl) (takes_of rfl rfl rfl rfl) (da_cons (de_tup (da_cons (de_var (pv 8)) (da_cons (de_tup (da_cons (de_int) (da_nil))) (da_cons (de_tup (da_cons (de_tup (da_cons (de_str [120]) (da_nil))) (da_nil))) (da_nil))))) (da_nil))).k) ((de_mul ((de_lst (da_cons (de_tup (da_cons (de_str [114, 111, 119]) (da_cons (de_var (pv 7)) (da_nil)))) (da_nil))).k) ((de_int).k)).k)) (dss_one (ds_ret (de_bl))) (dss_nil)) (dss_cons (ds_set (i := 7) sc_law.nd rfl (by first | exact Or.inl rfl | exact Or.inr rfl) (dc_val (de_callC (c__law_next T) (hr.mono (by decide)) (by rfl) (takes_of rfl rfl rfl rfl) (da_cons (de_var (pv 1)) (da_cons (de_add ((de_len (by rfl) T.z_len (dk_var (pv 4))).k) ((de_int).k)) (da_nil)))))) (dss_cons (ds_set (i := 9) sc_law.nd rfl (by first | exact Or.inl rfl | exact Or.inr rfl) (dc_val (de_add ((de_lst (da_cons (de_sub ((de_neg (de_int)).k) (dk_var (pv 6))) (da_cons (de_add ((de_sub ((de_len (by rfl) T.z_len (dk_var (pv 3))).k) ((de_int).k)).k) (dk_var (pv 6))) (da_nil)))).k) ((de_lc [("_law_gap", 10)] rfl sc_law.nd (di_any (de_sl ((de_sl (dk_var (pv 4)) (do_none) (do_some (dk_var (pv 7)))).k) (do_some ((de_neg (de_int)).k)) (do_none))) (blkOk_by (N := n_law) (sc := defScope s_law) (by decide +kernel)) (fun _ _ _ _ _ => dg_name (i := 10) sc_law.nd rfl (by first | exact Or.inl rfl | exact Or.inr rfl)) (fun _ _ _ _ _ => dts_nil) (fun _ _ _ _ _ => de_sub (dk_var (pv 10)) ((de_callC (c__law_next T) (hr.mono (by decide)) (by rfl) takes0 (da_cons (de_var (pv 1)) (da_cons (de_add (dk_var (pv 10)) ((de_int).k)) (da_nil)))).k))).k)))) (dss_cons (ds_set (i := 8) sc_law.nd rfl (by first | exact Or.inl rfl | exact Or.inr rfl) (dc_val (de_add ((de_add ((de_sl (dk_var (pv 4)) (do_none) (do_some (dk_var (pv 7)))).k) ((de_tup (da_cons (de_ix (dk_var (pv 9)) ((de_callC (c__law_next T) (hr.mono (by decide)) (by rfl) (takes_of rfl rfl rfl rfl) (da_cons (de_var (pv 1)) (da_cons (de_len (by rfl) T.z_len (dk_var (pv 9))) (da_nil)))).k)) (da_nil))).k)).k) ((de_sl (dk_var (pv 4)) (do_some (dk_var (pv 7))) (do_none)).k)))) (dss_cons (ds_if (dt_ne hr.units ((de_callC (c__law_refusals T D2) (hr.mono (by decide)) (by rfl) (takes_of rfl rfl rfl rfl) (da_cons (de_tup (da_cons (de_var (pv 3)) (da_cons (de_var (pv 8)) (da_cons (de_tup (da_cons (de_tup (da_cons (de_str [120]) (da_nil))) (da_nil))) (da_nil))))) (da_nil))).k) ((de_mul ((de_lst (da_cons (de_tup (da_cons (de_str [98, 97, 114, 115]) (da_cons (de_var (pv 7)) (da_nil)))) (da_nil))).k) ((de_int).k)).k)) (dss_one (ds_ret (de_bl))) (dss_nil)) (dss_cons (ds_set (i := 7) sc_law.nd rfl (by first | exact Or.inl rfl | exact Or.inr rfl) (dc_val (de_callC (c__law_next T) (hr.mono (by decide)) (by rfl) (takes_of rfl rfl rfl rfl) (da_cons (de_var (pv 1)) (da_cons (de_add ((de_len (by rfl) T.z_len (dk_var (pv 5))).k) ((de_int).k)) (da_nil)))))) (dss_cons (ds_set (i := 9) sc_law.nd rfl (by first | exact Or.inl rfl | exact Or.inr rfl) (dc_val (de_lst (da_cons (de_tup (da_cons (de_str [102]) (da_cons (de_str [97]) (da_cons (de_int) (da_cons (de_int) (da_cons (de_str [98]) (da_nil))))))) (da_cons (de_tup (da_cons (de_str [97]) (da_cons (de_str [102]) (da_cons (de_int) (da_cons (de_int) (da_cons (de_str [98]) (da_nil))))))) (da_cons (de_tup (da_cons (de_str [97]) (da_cons (de_str [98]) (da_cons (de_int) (da_cons (de_int) (da_cons (de_str [102]) (da_nil))))))) (da_cons (de_tup (da_cons (de_str [97]) (da_cons (de_str [98]) (da_cons (de_int) (da_cons (de_int) (da_cons (de_str [97]) (da_nil))))))) (da_nil)))))))) (dss_cons (ds_set (i := 9) sc_law.nd rfl (by first | exact Or.inl rfl | exact Or.inr rfl) (dc_val (de_add (dk_var (pv 9)) ((de_lst (da_cons (de_tup (da_cons (de_str [97]) (da_cons (de_str [98]) (da_cons (de_sub ((de_int).k) (dk_var (pv 6))) (da_cons (de_int) (da_cons (de_str [99]) (da_nil))))))) (da_cons (de_tup (da_cons (de_str [97]) (da_cons (de_str [98]) (da_cons (de_add ((de_int).k) (dk_var (pv 6))) (da_cons (de_int) (da_cons (de_str [99]) (da_nil))))))) (da_cons (de_tup (da_cons (de_str [97]) (da_cons (de_str [98]) (da_cons (de_int) (da_cons (de_sub ((de_int).k) (dk_var (pv 6))) (da_cons (de_str [99]) (da_nil))))))) (da_nil))))).k)))) (dss_cons (ds_set (i := 9) sc_law.nd rfl (by first | exact Or.inl rfl | exact Or.inr rfl) (dc_val (de_add (dk_var (pv 9)) ((de_lst (da_cons (de_tup (da_cons (de_str [97]) (da_cons (de_str [98]) (da_cons (de_int) (da_cons (de_add ((de_int).k) (dk_var (pv 6))) (da_cons (de_str [99]) (da_nil))))))) (da_cons (de_tup (da_cons (de_str [97, 98]) (da_cons (de_str [98]) (da_cons (de_int) (da_cons (de_int) (da_cons (de_str [99]) (da_nil))))))) (da_cons (de_tup (da_cons (de_str [97]) (da_cons (de_str [98]) (da_cons (de_int) (da_cons (de_int) (da_cons (de_str []) (da_nil))))))) (da_cons (de_tup (da_cons (de_str []) (da_cons (de_str [98]) (da_cons (de_int) (da_cons (de_int) (da_cons (de_str [99]) (da_nil))))))) (da_nil)))))).k)))) (dss_cons (ds_set (i := 8) sc_law.nd rfl (by first | exact Or.inl rfl | exact Or.inr rfl) (dc_val (de_add ((de_add ((de_sl (dk_var (pv 5)) (do_none) (do_some (dk_var (pv 7)))).k) ((de_tup (da_cons (de_ix (dk_var (pv 9)) ((de_callC (c__law_next T) (hr.mono (by decide)) (by rfl) (takes_of rfl rfl rfl rfl) (da_cons (de_var (pv 1)) (da_cons (de_int) (da_nil)))).k)) (da_nil))).k)).k) ((de_sl (dk_var (pv 5)) (do_some (dk_var (pv 7))) (do_none)).k)))) (dss_cons (ds_if (dt_ne hr.units ((de_callC (c__law_refusals T D2) (hr.mono (by decide)) (by rfl) (takes_of rfl rfl rfl rfl) (da_cons (de_tup (da_cons (de_var (pv 3)) (da_cons (de_var (pv 4)) (da_cons (de_var (pv 8)) (da_nil))))) (da_nil))).k) ((de_mul ((de_lst (da_cons (de_tup (da_cons (de_str [114, 117, 108, 101, 115]) (da_cons (de_var (pv 7)) (da_nil)))) (da_nil))).k) ((de_int).k)).k)) (dss_one (ds_ret (de_bl))) (dss_nil)) (dss_cons (ds_set (i := 11) sc_law.nd rfl (by first | exact Or.inl rfl | exact Or.inr rfl) (dc_val (de_lst (da_cons (de_lam0E (C := C0) (lx := lx_law_0) (by kernel_rfl) (by kernel_rfl) TB hcd0 hP0 hq0 hk0 lf_law_0 (ld_law_0 _) lh_law_0) (da_cons (de_lam1E (C := C0) (lx := lx_law_1) (by kernel_rfl) (by kernel_rfl) TB hcd0 hP0 hq0 hk1 lf_law_1 ld_law_1 lh_law_1) (da_nil)))))) (dss_cons (ds_if (dt_ne hr.units ((de_lcKind (t := t) (k := 12) rfl (ki__law_kind T) hL (hr.mono (by decide)) rfl sc_law.nd (di_any (de_var (pv 11))) (blkOk_by (N := n_law) (sc := defScope s_law) (by decide +kernel)) rfl (by rfl) lj_law_12 (by rfl) (hg2 := by intros; rfl) (hv2 := by intros; exact Or.inl rfl) (hl2 := by intros; rfl)).k) ((de_mul ((de_lst (da_cons (de_tup (da_cons (de_str [114, 117, 108, 101, 115]) (da_cons (de_var (pv 7)) (da_nil)))) (da_nil))).k) ((de_int).k)).k)) (dss_one (ds_ret (de_bl))) (dss_nil)) (dss_forget 2 (dss_forget 3 (dss_forget 4 (dss_forget 5 (dss_forget 6 (dss_forget 7 (dss_forget 8 (dss_forget 9 (dss_forget 11 (dss_nil))))))))))))))))))))))))))) (dss_cons (ds_set (i := 13) sc_law.nd rfl (by first | exact Or.inl rfl | exact Or.inr rfl) (dc_val (de_mul ((de_tup (da_cons (de_tup (da_cons (de_str [97]) (da_cons (de_str [98]) (da_cons (de_int) (da_cons (de_int) (da_cons (de_str [99]) (da_nil))))))) (da_nil))).k) ((de_int).k)))) (dss_cons (ds_set (i := 14) sc_law.nd rfl (by first | exact Or.inl rfl | exact Or.inr rfl) (dc_own (da_cons (de_callC (c__law_refusals T D2) (hr.mono (by decide)) (by rfl) (takes_of rfl rfl rfl rfl) (da_cons (de_tup (da_cons (de_mul ((de_str [97]).k) ((de_int).k)) (da_cons (de_tup (da_nil)) (da_cons (de_var (pv 13)) (da_nil))))) (da_nil))) (da_cons (de_callC (c__law_refusals T D2) (hr.mono (by decide)) (by rfl) (takes_of rfl rfl rfl rfl) (da_cons (de_tup (da_cons (de_str []) (da_cons (de_tup (da_cons (de_int) (da_nil))) (da_cons (de_var (pv 13)) (da_nil))))) (da_nil))) (da_nil))))) (dss_cons (ds_appD (i := 14) (pv 14) (de_callC (c__law_refusals T D2) (hr.mono (by decide)) (by rfl) (takes_of rfl rfl rfl rfl) (da_cons (de_tup (da_cons (de_mul ((de_str [97]).k) ((de_int).k)) (da_cons (de_tupRg rfl (by rfl) T.z_tuple (by rfl) T.z_range (de_int)) (da_cons (de_var (pv 13)) (da_nil))))) (da_nil)))) (dss_cons (ds_if (dt_ne hr.units (dk_var (pv 14)) ((de_lst (da_cons (de_mul ((de_lst (da_cons (de_tup (da_cons (de_str [114, 111, 119]) (da_cons (de_int) (da_nil)))) (da_nil))).k) ((de_int).k)) (da_cons (de_mul ((de_lst (da_cons (de_tup (da_cons (de_str [114, 111, 119]) (da_cons (de_int) (da_nil)))) (da_nil))).k) ((de_int).k)) (da_cons (de_mul ((de_lst (da_cons (de_tup (da_cons (de_str [114, 117, 108, 101, 115]) (da_cons (de_int) (da_nil)))) (da_nil))).k) ((de_int).k)) (da_nil))))).k)) (dss_one (ds_ret (de_bl))) (dss_nil)) (dss_one (ds_ret (de_eq hr.units ((de_callC (c_beats T) (hr.mono (by decide)) (by rfl) (takes_of rfl rfl rfl rfl) (da_cons (de_tup (da_cons (de_mul ((de_str [97, 98]).k) ((de_int).k)) (da_cons (de_tupRg rfl (by rfl) T.z_tuple (by rfl) T.z_range (de_int)) (da_cons (de_sl (dk_var (pv 13)) (do_none) (do_some ((de_int).k))) (da_nil))))) (da_cons (de_int) (da_nil)))).k) ((de_mul ((de_lst (da_cons (de_mul ((de_str [97, 98]).k) ((de_int).k)) (da_nil))).k) ((de_int).k)).k)))))))))
theorem law_c {t : Tf} (T : GT K mg t) (h : LawOkT2 n_law 3 (fun C C2 => @b_law C C2)) {f cL pL : Addr} {kV doc pm ct oc : Value} {an od : Option Addr} {osl : Array (Option Value)} (lk : K.lookup f = some ⟨oc, od, .func (PySem.W.fnOf "law" "law" (defArgs s_law) (defBody s_law) (defScope s_law) .none kV doc pm an (.ref cL) ct), osl⟩) (hcd : PySem.W.codeIn K (.ref cL) "law" = true) (TB : LamX.TabB base mg cL pL) {p2 : Addr} (D2 : DefIsT K mg base "_law_refusals" s__law_refusals p2) : FnOk P w K mg base (L2.CX P w) 13 f (PySem.W.fnOf "law" "law" (defArgs s_law) (defBody s_law) (defScope s_law) .none kV doc pm an (.ref cL) ct) ["_law_script"] (spLawT2 K pL p2) :=
  law_fnT2 (t := t) (Lf := Lf_law) (p2 := p2) (q2 := q__law_refusals) (g := fun C C2 => @b_law C C2) lk hcd sc_law h (by decide) fun A outer s H E hr => law_body T TB D2 A outer s H E hr
end
theorem all_mk {l : PySem.W.OpenLaw} {w : World} {K : PySem.W.Frag} {h : Heap} {mg : Str → Option Value} {fa : Addr} (X : K.In h) (G : h.Ns mainGlobals mg) (hfa : mg "law" = some (.ref fa))
    {C10 : Addr}
    {f0 : Addr} {od0 an0 : Option Addr} {sl0 : Array (Option Value)} {oc0 kV0 dc0 pm0 cd0 ct0 : Value}
    {f1 : Addr} {od1 an1 : Option Addr} {sl1 : Array (Option Value)} {oc1 kV1 dc1 pm1 cd1 ct1 : Value}
    {f2 : Addr} {od2 an2 : Option Addr} {sl2 : Array (Option Value)} {oc2 kV2 dc2 pm2 cd2 ct2 : Value}
    {f3 : Addr} {od3 an3 : Option Addr} {sl3 : Array (Option Value)} {oc3 kV3 dc3 pm3 cd3 ct3 : Value}
    {f4 : Addr} {od4 an4 : Option Addr} {sl4 : Array (Option Value)} {oc4 kV4 dc4 pm4 cd4 ct4 : Value}
    {f5 : Addr} {od5 an5 : Option Addr} {sl5 : Array (Option Value)} {oc5 kV5 dc5 pm5 cd5 ct5 : Value}
    {f6 : Addr} {od6 an6 : Option Addr} {sl6 : Array (Option Value)} {oc6 kV6 dc6 pm6 cd6 ct6 : Value}
    {f7 : Addr} {od7 an7 : Option Addr} {sl7 : Array (Option Value)} {oc7 kV7 dc7 pm7 cd7 ct7 : Value}
    {f8 : Addr} {od8 an8 : Option Addr} {sl8 : Array (Option Value)} {oc8 kV8 dc8 pm8 cd8 ct8 : Value}
    {f9 : Addr} {od9 an9 : Option Addr} {sl9 : Array (Option Value)} {oc9 kV9 dc9 pm9 cd9 ct9 : Value}
    {f10 : Addr} {od10 an10 : Option Addr} {sl10 : Array (Option Value)} {oc10 kV10 dc10 pm10 cd10 ct10 : Value}
    {f11 : Addr} {od11 an11 : Option Addr} {sl11 : Array (Option Value)} {oc11 kV11 dc11 pm11 cd11 ct11 : Value}
    {f12 : Addr} {od12 an12 : Option Addr} {sl12 : Array (Option Value)} {oc12 kV12 dc12 pm12 cd12 ct12 : Value}
    {f13 : Addr} {od13 an13 : Option Addr} {sl13 : Array (Option Value)} {oc13 kV13 dc13 pm13 cd13 ct13 : Value}
    {f14 : Addr} {od14 an14 : Option Addr} {sl14 : Array (Option Value)} {oc14 kV14 dc14 pm14 cd14 ct14 : Value}
    {f15 : Addr} {od15 an15 : Option Addr} {sl15 : Array (Option Value)} {oc15 kV15 dc15 pm15 cd15 ct15 : Value}
    {f16 : Addr} {od16 an16 : Option Addr} {sl16 : Array (Option Value)} {oc16 kV16 dc16 pm16 cd16 ct16 : Value}
    {f17 : Addr} {od17 an17 : Option Addr} {sl17 : Array (Option Value)} {oc17 kV17 dc17 pm17 cd17 ct17 : Value}
    {f18 : Addr} {od18 an18 : Option Addr} {sl18 : Array (Option Value)} {oc18 kV18 dc18 pm18 cd18 ct18 : Value}
    {f19 : Addr} {od19 an19 : Option Addr} {sl19 : Array (Option Value)} {oc19 kV19 dc19 pm19 cd19 ct19 : Value}
    {f20 : Addr} {od20 an20 : Option Addr} {sl20 : Array (Option Value)} {oc20 kV20 dc20 pm20 cd20 ct20 : Value}
    {f21 : Addr} {od21 an21 : Option Addr} {sl21 : Array (Option Value)} {oc21 kV21 dc21 pm21 cd21 ct21 : Value}
    {f22 : Addr} {od22 an22 : Option Addr} {sl22 : Array (Option Value)} {oc22 kV22 dc22 pm22 cd22 ct22 : Value}
    {f23 : Addr} {od23 an23 : Option Addr} {sl23 : Array (Option Value)} {oc23 kV23 dc23 pm23 cd23 ct23 : Value}
    {f24 : Addr} {od24 an24 : Option Addr} {sl24 : Array (Option Value)} {oc24 kV24 dc24 pm24 cd24 ct24 : Value}
    {f25 : Addr} {od25 an25 : Option Addr} {sl25 : Array (Option Value)} {oc25 kV25 dc25 pm25 cd25 ct25 : Value}
    {f26 : Addr} {od26 an26 : Option Addr} {sl26 : Array (Option Value)} {oc26 kV26 dc26 pm26 cd26 ct26 : Value}
    {f27 : Addr} {od27 an27 : Option Addr} {sl27 : Array (Option Value)} {oc27 kV27 dc27 pm27 cd27 ct27 : Value}
    {f28 : Addr} {od28 an28 : Option Addr} {sl28 : Array (Option Value)} {oc28 kV28 dc28 pm28 cd28 ct28 : Value}
    {f29 : Addr} {od29 an29 : Option Addr} {sl29 : Array (Option Value)} {oc29 kV29 dc29 pm29 cd29 ct29 : Value}
    {f30 : Addr} {od30 an30 : Option Addr} {sl30 : Array (Option Value)} {oc30 kV30 dc30 pm30 cd30 ct30 : Value}
    {f31 : Addr} {od31 an31 : Option Addr} {sl31 : Array (Option Value)} {oc31 kV31 dc31 pm31 cd31 ct31 : Value}
    {f32 : Addr} {od32 an32 : Option Addr} {sl32 : Array (Option Value)} {oc32 kV32 dc32 pm32 cd32 ct32 : Value}
    {f33 : Addr} {od33 an33 : Option Addr} {sl33 : Array (Option Value)} {oc33 kV33 dc33 pm33 cd33 ct33 : Value}
    {f34 : Addr} {od34 an34 : Option Addr} {sl34 : Array (Option Value)} {oc34 kV34 dc34 pm34 cd34 ct34 : Value}
    {f35 : Addr} {od35 an35 : Option Addr} {sl35 : Array (Option Value)} {oc35 kV35 dc35 pm35 ct35 : Value}
    {cD pD : Addr}
    {f36 : Addr} {od36 an36 : Option Addr} {sl36 : Array (Option Value)} {oc36 kV36 dc36 pm36 cd36 ct36 : Value}
    {f37 : Addr} {od37 an37 : Option Addr} {sl37 : Array (Option Value)} {oc37 kV37 dc37 pm37 ct37 : Value}
    {cL pL : Addr}
    {t_BAR_notes : Tok}
    {t_KINDS : Tok}
    {t_MOST_BEATS : Tok}
    {t_MOST_FAR : Tok}
    {t_MOST_JARS : Tok}
    {t_MOST_NEAR : Tok}
    {t_MOST_ROWS : Tok}
    {t_MOST_RULES : Tok}
    {t_MOST_STATES : Tok}
    {t_RULE : Tok}
    {C0 : Addr}
    {C1 : Addr}
    {C2 : Addr}
    {C3 : Addr}
    {C4 : Addr}
    {C5 : Addr}
    {C6 : Addr}
    {C7 : Addr}
    {C8 : Addr}
    {C9 : Addr}
    {nm0 qn0 : Str} {ns0 : Addr} {bs0 bm0 : List Value} {sn0 : List Str} {su0 : List Value} {ab0 : Bool} {co0 : Option Bool} {dd0 : Option Addr} {ka0 kb0 kc0 kd0 ke0 : Option Value} {fi0 : Addr} {ic0 iv0 io0 im0 iw0 ix0 : Value} {iy0 iz0 : Option Addr} {is0 : Array (Option Value)}
    {nm1 qn1 : Str} {ns1 : Addr} {bs1 bm1 : List Value} {sn1 : List Str} {su1 : List Value} {ab1 : Bool} {co1 : Option Bool} {dd1 : Option Addr} {ka1 kb1 kc1 kd1 ke1 : Option Value} {fi1 : Addr} {ic1 iv1 io1 im1 iw1 ix1 : Value} {iy1 iz1 : Option Addr} {is1 : Array (Option Value)}
    {nm2 qn2 : Str} {ns2 : Addr} {bs2 bm2 : List Value} {sn2 : List Str} {su2 : List Value} {ab2 : Bool} {co2 : Option Bool} {dd2 : Option Addr} {ka2 kb2 kc2 kd2 ke2 : Option Value} {fi2 : Addr} {ic2 iv2 io2 im2 iw2 ix2 : Value} {iy2 iz2 : Option Addr} {is2 : Array (Option Value)}
    {nm4 qn4 : Str} {ns4 : Addr} {bs4 bm4 : List Value} {sn4 : List Str} {su4 : List Value} {ab4 : Bool} {co4 : Option Bool} {dd4 : Option Addr} {ka4 kb4 kc4 kd4 ke4 : Option Value} {fi4 : Addr} {ic4 iv4 io4 im4 iw4 ix4 : Value} {iy4 iz4 : Option Addr} {is4 : Array (Option Value)}
    {ocL : Value} {odL : Option Addr} {vsL : Array Value} {slL : Array (Option Value)}
    {ocD : Value} {odD : Option Addr} {vsD : Array Value} {slD : Array (Option Value)}
    (n_10 : PySem.W.nsIn K mainGlobals "Shelf" = some (some (.ref C10)))
    (a0 : PySem.W.nsIn K mainGlobals "need_row" = some (some (.ref f0))) (l0 : K.lookup f0 = some ⟨oc0, od0, .func (PySem.W.fnOf "need_row" "need_row" (defArgs s_need_row) (defBody s_need_row) (defScope s_need_row) .none kV0 dc0 pm0 an0 cd0 ct0), sl0⟩) (c0 : PySem.W.codeIn K cd0 "need_row" = true) (k0 : PySem.W.keepIn K (.ref f0) = true)
    (a1 : PySem.W.nsIn K mainGlobals "need_bars" = some (some (.ref f1))) (l1 : K.lookup f1 = some ⟨oc1, od1, .func (PySem.W.fnOf "need_bars" "need_bars" (defArgs s_need_bars) (defBody s_need_bars) (defScope s_need_bars) .none kV1 dc1 pm1 an1 cd1 ct1), sl1⟩) (c1 : PySem.W.codeIn K cd1 "need_bars" = true) (k1 : PySem.W.keepIn K (.ref f1) = true)
    (a2 : PySem.W.nsIn K mainGlobals "is_kind" = some (some (.ref f2))) (l2 : K.lookup f2 = some ⟨oc2, od2, .func (PySem.W.fnOf "is_kind" "is_kind" (defArgs s_is_kind) (defBody s_is_kind) (defScope s_is_kind) .none kV2 dc2 pm2 an2 cd2 ct2), sl2⟩) (c2 : PySem.W.codeIn K cd2 "is_kind" = true) (k2 : PySem.W.keepIn K (.ref f2) = true)
    (a3 : PySem.W.nsIn K mainGlobals "is_rule" = some (some (.ref f3))) (l3 : K.lookup f3 = some ⟨oc3, od3, .func (PySem.W.fnOf "is_rule" "is_rule" (defArgs s_is_rule) (defBody s_is_rule) (defScope s_is_rule) .none kV3 dc3 pm3 an3 cd3 ct3), sl3⟩) (c3 : PySem.W.codeIn K cd3 "is_rule" = true) (k3 : PySem.W.keepIn K (.ref f3) = true)
    (a4 : PySem.W.nsIn K mainGlobals "need_rules" = some (some (.ref f4))) (l4 : K.lookup f4 = some ⟨oc4, od4, .func (PySem.W.fnOf "need_rules" "need_rules" (defArgs s_need_rules) (defBody s_need_rules) (defScope s_need_rules) .none kV4 dc4 pm4 an4 cd4 ct4), sl4⟩) (c4 : PySem.W.codeIn K cd4 "need_rules" = true) (k4 : PySem.W.keepIn K (.ref f4) = true)
    (a5 : PySem.W.nsIn K mainGlobals "need_world" = some (some (.ref f5))) (l5 : K.lookup f5 = some ⟨oc5, od5, .func (PySem.W.fnOf "need_world" "need_world" (defArgs s_need_world) (defBody s_need_world) (defScope s_need_world) .none kV5 dc5 pm5 an5 cd5 ct5), sl5⟩) (c5 : PySem.W.codeIn K cd5 "need_world" = true) (k5 : PySem.W.keepIn K (.ref f5) = true)
    (a6 : PySem.W.nsIn K mainGlobals "begun" = some (some (.ref f6))) (l6 : K.lookup f6 = some ⟨oc6, od6, .func (PySem.W.fnOf "begun" "begun" (defArgs s_begun) (defBody s_begun) (defScope s_begun) .none kV6 dc6 pm6 an6 cd6 ct6), sl6⟩) (c6 : PySem.W.codeIn K cd6 "begun" = true) (k6 : PySem.W.keepIn K (.ref f6) = true)
    (a7 : PySem.W.nsIn K mainGlobals "beside" = some (some (.ref f7))) (l7 : K.lookup f7 = some ⟨oc7, od7, .func (PySem.W.fnOf "beside" "beside" (defArgs s_beside) (defBody s_beside) (defScope s_beside) .none kV7 dc7 pm7 an7 cd7 ct7), sl7⟩) (c7 : PySem.W.codeIn K cd7 "beside" = true) (k7 : PySem.W.keepIn K (.ref f7) = true)
    (a8 : PySem.W.nsIn K mainGlobals "counted" = some (some (.ref f8))) (l8 : K.lookup f8 = some ⟨oc8, od8, .func (PySem.W.fnOf "counted" "counted" (defArgs s_counted) (defBody s_counted) (defScope s_counted) .none kV8 dc8 pm8 an8 cd8 ct8), sl8⟩) (c8 : PySem.W.codeIn K cd8 "counted" = true) (k8 : PySem.W.keepIn K (.ref f8) = true)
    (a9 : PySem.W.nsIn K mainGlobals "turned" = some (some (.ref f9))) (l9 : K.lookup f9 = some ⟨oc9, od9, .func (PySem.W.fnOf "turned" "turned" (defArgs s_turned) (defBody s_turned) (defScope s_turned) .none kV9 dc9 pm9 an9 cd9 ct9), sl9⟩) (c9 : PySem.W.codeIn K cd9 "turned" = true) (k9 : PySem.W.keepIn K (.ref f9) = true)
    (a10 : PySem.W.nsIn K mainGlobals "beat_of" = some (some (.ref f10))) (l10 : K.lookup f10 = some ⟨oc10, od10, .func (PySem.W.fnOf "beat_of" "beat_of" (defArgs s_beat_of) (defBody s_beat_of) (defScope s_beat_of) .none kV10 dc10 pm10 an10 cd10 ct10), sl10⟩) (c10 : PySem.W.codeIn K cd10 "beat_of" = true) (k10 : PySem.W.keepIn K (.ref f10) = true)
    (a11 : PySem.W.nsIn K mainGlobals "beats" = some (some (.ref f11))) (l11 : K.lookup f11 = some ⟨oc11, od11, .func (PySem.W.fnOf "beats" "beats" (defArgs s_beats) (defBody s_beats) (defScope s_beats) .none kV11 dc11 pm11 an11 cd11 ct11), sl11⟩) (c11 : PySem.W.codeIn K cd11 "beats" = true) (k11 : PySem.W.keepIn K (.ref f11) = true)
    (a12 : PySem.W.findIn K (.ref C10) "__init__" = some (some (.ref f12))) (l12 : K.lookup f12 = some ⟨oc12, od12, .func (PySem.W.fnOf "__init__" "Shelf.__init__" (defArgs s_Shelf___init__) (defBody s_Shelf___init__) (defScope s_Shelf___init__) .none kV12 dc12 pm12 an12 cd12 ct12), sl12⟩) (c12 : PySem.W.codeIn K cd12 "Shelf.__init__" = true) (k12 : PySem.W.keepIn K (.ref f12) = true) (w12 : PySem.W.isFn K (.ref f12) = true)
    (a13 : PySem.W.nsIn K mainGlobals "again" = some (some (.ref f13))) (l13 : K.lookup f13 = some ⟨oc13, od13, .func (PySem.W.fnOf "again" "again" (defArgs s_again) (defBody s_again) (defScope s_again) .none kV13 dc13 pm13 an13 cd13 ct13), sl13⟩) (c13 : PySem.W.codeIn K cd13 "again" = true) (k13 : PySem.W.keepIn K (.ref f13) = true)
    (a14 : PySem.W.nsIn K mainGlobals "_law_next" = some (some (.ref f14))) (l14 : K.lookup f14 = some ⟨oc14, od14, .func (PySem.W.fnOf "_law_next" "_law_next" (defArgs s__law_next) (defBody s__law_next) (defScope s__law_next) .none kV14 dc14 pm14 an14 cd14 ct14), sl14⟩) (c14 : PySem.W.codeIn K cd14 "_law_next" = true) (k14 : PySem.W.keepIn K (.ref f14) = true)
    (a15 : PySem.W.nsIn K mainGlobals "_law_rules" = some (some (.ref f15))) (l15 : K.lookup f15 = some ⟨oc15, od15, .func (PySem.W.fnOf "_law_rules" "_law_rules" (defArgs s__law_rules) (defBody s__law_rules) (defScope s__law_rules) .none kV15 dc15 pm15 an15 cd15 ct15), sl15⟩) (c15 : PySem.W.codeIn K cd15 "_law_rules" = true) (k15 : PySem.W.keepIn K (.ref f15) = true)
    (a16 : PySem.W.nsIn K mainGlobals "_law_world" = some (some (.ref f16))) (l16 : K.lookup f16 = some ⟨oc16, od16, .func (PySem.W.fnOf "_law_world" "_law_world" (defArgs s__law_world) (defBody s__law_world) (defScope s__law_world) .none kV16 dc16 pm16 an16 cd16 ct16), sl16⟩) (c16 : PySem.W.codeIn K cd16 "_law_world" = true) (k16 : PySem.W.keepIn K (.ref f16) = true)
    (a17 : PySem.W.nsIn K mainGlobals "walk" = some (some (.ref f17))) (l17 : K.lookup f17 = some ⟨oc17, od17, .func (PySem.W.fnOf "walk" "walk" (defArgs s_walk) (defBody s_walk) (defScope s_walk) .none kV17 dc17 pm17 an17 cd17 ct17), sl17⟩) (c17 : PySem.W.codeIn K cd17 "walk" = true) (k17 : PySem.W.keepIn K (.ref f17) = true)
    (a18 : PySem.W.nsIn K mainGlobals "period" = some (some (.ref f18))) (l18 : K.lookup f18 = some ⟨oc18, od18, .func (PySem.W.fnOf "period" "period" (defArgs s_period) (defBody s_period) (defScope s_period) .none kV18 dc18 pm18 an18 cd18 ct18), sl18⟩) (c18 : PySem.W.codeIn K cd18 "period" = true) (k18 : PySem.W.keepIn K (.ref f18) = true)
    (a19 : PySem.W.nsIn K mainGlobals "after" = some (some (.ref f19))) (l19 : K.lookup f19 = some ⟨oc19, od19, .func (PySem.W.fnOf "after" "after" (defArgs s_after) (defBody s_after) (defScope s_after) .none kV19 dc19 pm19 an19 cd19 ct19), sl19⟩) (c19 : PySem.W.codeIn K cd19 "after" = true) (k19 : PySem.W.keepIn K (.ref f19) = true)
    (a20 : PySem.W.nsIn K mainGlobals "turns" = some (some (.ref f20))) (l20 : K.lookup f20 = some ⟨oc20, od20, .func (PySem.W.fnOf "turns" "turns" (defArgs s_turns) (defBody s_turns) (defScope s_turns) .none kV20 dc20 pm20 an20 cd20 ct20), sl20⟩) (c20 : PySem.W.codeIn K cd20 "turns" = true) (k20 : PySem.W.keepIn K (.ref f20) = true)
    (a21 : PySem.W.nsIn K mainGlobals "often" = some (some (.ref f21))) (l21 : K.lookup f21 = some ⟨oc21, od21, .func (PySem.W.fnOf "often" "often" (defArgs s_often) (defBody s_often) (defScope s_often) .none kV21 dc21 pm21 an21 cd21 ct21), sl21⟩) (c21 : PySem.W.codeIn K cd21 "often" = true) (k21 : PySem.W.keepIn K (.ref f21) = true)
    (a22 : PySem.W.nsIn K mainGlobals "need_kept" = some (some (.ref f22))) (l22 : K.lookup f22 = some ⟨oc22, od22, .func (PySem.W.fnOf "need_kept" "need_kept" (defArgs s_need_kept) (defBody s_need_kept) (defScope s_need_kept) .none kV22 dc22 pm22 an22 cd22 ct22), sl22⟩) (c22 : PySem.W.codeIn K cd22 "need_kept" = true) (k22 : PySem.W.keepIn K (.ref f22) = true)
    (a23 : PySem.W.nsIn K mainGlobals "first_turn" = some (some (.ref f23))) (l23 : K.lookup f23 = some ⟨oc23, od23, .func (PySem.W.fnOf "first_turn" "first_turn" (defArgs s_first_turn) (defBody s_first_turn) (defScope s_first_turn) .none kV23 dc23 pm23 an23 cd23 ct23), sl23⟩) (c23 : PySem.W.codeIn K cd23 "first_turn" = true) (k23 : PySem.W.keepIn K (.ref f23) = true)
    (a24 : PySem.W.nsIn K mainGlobals "breaks" = some (some (.ref f24))) (l24 : K.lookup f24 = some ⟨oc24, od24, .func (PySem.W.fnOf "breaks" "breaks" (defArgs s_breaks) (defBody s_breaks) (defScope s_breaks) .none kV24 dc24 pm24 an24 cd24 ct24), sl24⟩) (c24 : PySem.W.codeIn K cd24 "breaks" = true) (k24 : PySem.W.keepIn K (.ref f24) = true)
    (a25 : PySem.W.nsIn K mainGlobals "choices" = some (some (.ref f25))) (l25 : K.lookup f25 = some ⟨oc25, od25, .func (PySem.W.fnOf "choices" "choices" (defArgs s_choices) (defBody s_choices) (defScope s_choices) .none kV25 dc25 pm25 an25 cd25 ct25), sl25⟩) (c25 : PySem.W.codeIn K cd25 "choices" = true) (k25 : PySem.W.keepIn K (.ref f25) = true)
    (a26 : PySem.W.nsIn K mainGlobals "fewest_bars" = some (some (.ref f26))) (l26 : K.lookup f26 = some ⟨oc26, od26, .func (PySem.W.fnOf "fewest_bars" "fewest_bars" (defArgs s_fewest_bars) (defBody s_fewest_bars) (defScope s_fewest_bars) .none kV26 dc26 pm26 an26 cd26 ct26), sl26⟩) (c26 : PySem.W.codeIn K cd26 "fewest_bars" = true) (k26 : PySem.W.keepIn K (.ref f26) = true)
    (a27 : PySem.W.nsIn K mainGlobals "fewest_jars" = some (some (.ref f27))) (l27 : K.lookup f27 = some ⟨oc27, od27, .func (PySem.W.fnOf "fewest_jars" "fewest_jars" (defArgs s_fewest_jars) (defBody s_fewest_jars) (defScope s_fewest_jars) .none kV27 dc27 pm27 an27 cd27 ct27), sl27⟩) (c27 : PySem.W.codeIn K cd27 "fewest_jars" = true) (k27 : PySem.W.keepIn K (.ref f27) = true)
    (a28 : PySem.W.nsIn K mainGlobals "written" = some (some (.ref f28))) (l28 : K.lookup f28 = some ⟨oc28, od28, .func (PySem.W.fnOf "written" "written" (defArgs s_written) (defBody s_written) (defScope s_written) .none kV28 dc28 pm28 an28 cd28 ct28), sl28⟩) (c28 : PySem.W.codeIn K cd28 "written" = true) (k28 : PySem.W.keepIn K (.ref f28) = true)
    (a29 : PySem.W.nsIn K mainGlobals "next_kind" = some (some (.ref f29))) (l29 : K.lookup f29 = some ⟨oc29, od29, .func (PySem.W.fnOf "next_kind" "next_kind" (defArgs s_next_kind) (defBody s_next_kind) (defScope s_next_kind) .none kV29 dc29 pm29 an29 cd29 ct29), sl29⟩) (c29 : PySem.W.codeIn K cd29 "next_kind" = true) (k29 : PySem.W.keepIn K (.ref f29) = true)
    (a30 : PySem.W.nsIn K mainGlobals "side" = some (some (.ref f30))) (l30 : K.lookup f30 = some ⟨oc30, od30, .func (PySem.W.fnOf "side" "side" (defArgs s_side) (defBody s_side) (defScope s_side) .none kV30 dc30 pm30 an30 cd30 ct30), sl30⟩) (c30 : PySem.W.codeIn K cd30 "side" = true) (k30 : PySem.W.keepIn K (.ref f30) = true)
    (a31 : PySem.W.nsIn K mainGlobals "fits" = some (some (.ref f31))) (l31 : K.lookup f31 = some ⟨oc31, od31, .func (PySem.W.fnOf "fits" "fits" (defArgs s_fits) (defBody s_fits) (defScope s_fits) .none kV31 dc31 pm31 an31 cd31 ct31), sl31⟩) (c31 : PySem.W.codeIn K cd31 "fits" = true) (k31 : PySem.W.keepIn K (.ref f31) = true)
    (a32 : PySem.W.nsIn K mainGlobals "how_many" = some (some (.ref f32))) (l32 : K.lookup f32 = some ⟨oc32, od32, .func (PySem.W.fnOf "how_many" "how_many" (defArgs s_how_many) (defBody s_how_many) (defScope s_how_many) .none kV32 dc32 pm32 an32 cd32 ct32), sl32⟩) (c32 : PySem.W.codeIn K cd32 "how_many" = true) (k32 : PySem.W.keepIn K (.ref f32) = true)
    (a33 : PySem.W.nsIn K mainGlobals "sources" = some (some (.ref f33))) (l33 : K.lookup f33 = some ⟨oc33, od33, .func (PySem.W.fnOf "sources" "sources" (defArgs s_sources) (defBody s_sources) (defScope s_sources) .none kV33 dc33 pm33 an33 cd33 ct33), sl33⟩) (c33 : PySem.W.codeIn K cd33 "sources" = true) (k33 : PySem.W.keepIn K (.ref f33) = true)
    (a34 : PySem.W.nsIn K mainGlobals "_law_kind" = some (some (.ref f34))) (l34 : K.lookup f34 = some ⟨oc34, od34, .func (PySem.W.fnOf "_law_kind" "_law_kind" (defArgs s__law_kind) (defBody s__law_kind) (defScope s__law_kind) .none kV34 dc34 pm34 an34 cd34 ct34), sl34⟩) (c34 : PySem.W.codeIn K cd34 "_law_kind" = true) (k34 : PySem.W.keepIn K (.ref f34) = true)
    (a35 : PySem.W.nsIn K mainGlobals "_law_refusals" = some (some (.ref f35))) (l35 : K.lookup f35 = some ⟨oc35, od35, .func (PySem.W.fnOf "_law_refusals" "_law_refusals" (defArgs s__law_refusals) (defBody s__law_refusals) (defScope s__law_refusals) .none kV35 dc35 pm35 an35 (.ref cD) ct35), sl35⟩) (c35 : PySem.W.codeIn K (.ref cD) "_law_refusals" = true) (k35 : PySem.W.keepIn K (.ref f35) = true)
    (a36 : PySem.W.nsIn K mainGlobals "_law_mix" = some (some (.ref f36))) (l36 : K.lookup f36 = some ⟨oc36, od36, .func (PySem.W.fnOf "_law_mix" "_law_mix" (defArgs s__law_mix) (defBody s__law_mix) (defScope s__law_mix) .none kV36 dc36 pm36 an36 cd36 ct36), sl36⟩) (c36 : PySem.W.codeIn K cd36 "_law_mix" = true) (k36 : PySem.W.keepIn K (.ref f36) = true)
    (a37 : PySem.W.nsIn K mainGlobals "law" = some (some (.ref f37))) (l37 : K.lookup f37 = some ⟨oc37, od37, .func (PySem.W.fnOf "law" "law" (defArgs s_law) (defBody s_law) (defScope s_law) .none kV37 dc37 pm37 an37 (.ref cL) ct37), sl37⟩) (c37 : PySem.W.codeIn K (.ref cL) "law" = true) (k37 : PySem.W.keepIn K (.ref f37) = true)
    (op_10 : PySem.W.plainGet K C10 Str.empty = true)
    (oh_10 : PySem.W.hasDictIn K C10 = true)
    (oo_10 : PySem.W.plainOver K C10 = true)
    (os_10 : PySem.W.findIn K (.ref C10) "__setattr__" = some (some (.builtin "object.__setattr__")))
    (om_10 : PySem.W.makesIn K C10 = true)
    (ok_10 : PySem.W.keepIn K (.ref C10) = true)
    (na_counts : PySem.W.findIn K (.ref C10) "counts" = some none)
    (na_notes : PySem.W.findIn K (.ref C10) "notes" = some none)
    (na_row : PySem.W.findIn K (.ref C10) "row" = some none)
    (na_rules : PySem.W.findIn K (.ref C10) "rules" = some none)
    (na_walls : PySem.W.findIn K (.ref C10) "walls" = some none)
    (g_BAR_notes : PySem.W.nsIn K mainGlobals "BAR_notes" = some (some (.str "|" t_BAR_notes)))
    (g_KINDS : PySem.W.nsIn K mainGlobals "KINDS" = some (some (.str "abcde" t_KINDS)))
    (g_MOST_BEATS : PySem.W.nsIn K mainGlobals "MOST_BEATS" = some (some (.int 4 t_MOST_BEATS)))
    (g_MOST_FAR : PySem.W.nsIn K mainGlobals "MOST_FAR" = some (some (.int 1000000000000 t_MOST_FAR)))
    (g_MOST_JARS : PySem.W.nsIn K mainGlobals "MOST_JARS" = some (some (.int 12 t_MOST_JARS)))
    (g_MOST_NEAR : PySem.W.nsIn K mainGlobals "MOST_NEAR" = some (some (.int 300 t_MOST_NEAR)))
    (g_MOST_ROWS : PySem.W.nsIn K mainGlobals "MOST_ROWS" = some (some (.int 2000 t_MOST_ROWS)))
    (g_MOST_RULES : PySem.W.nsIn K mainGlobals "MOST_RULES" = some (some (.int 5 t_MOST_RULES)))
    (g_MOST_STATES : PySem.W.nsIn K mainGlobals "MOST_STATES" = some (some (.int 5000 t_MOST_STATES)))
    (g_RULE : PySem.W.nsIn K mainGlobals "RULE" = some (some (.str "rule" t_RULE)))
    (z_ValueError : PySem.W.nsIn K mainGlobals "ValueError" = some none)
    (z_enumerate : PySem.W.nsIn K mainGlobals "enumerate" = some none)
    (z_int : PySem.W.nsIn K mainGlobals "int" = some none)
    (z_isinstance : PySem.W.nsIn K mainGlobals "isinstance" = some none)
    (z_len : PySem.W.nsIn K mainGlobals "len" = some none)
    (z_list : PySem.W.nsIn K mainGlobals "list" = some none)
    (z_max : PySem.W.nsIn K mainGlobals "max" = some none)
    (z_min : PySem.W.nsIn K mainGlobals "min" = some none)
    (z_range : PySem.W.nsIn K mainGlobals "range" = some none)
    (z_sorted : PySem.W.nsIn K mainGlobals "sorted" = some none)
    (z_str : PySem.W.nsIn K mainGlobals "str" = some none)
    (z_sum : PySem.W.nsIn K mainGlobals "sum" = some none)
    (z_tuple : PySem.W.nsIn K mainGlobals "tuple" = some none)
    (z_zip : PySem.W.nsIn K mainGlobals "zip" = some none)
    (n_0 : PySem.W.nsIn K mainGlobals "BadRow" = some (some (.ref C0)))
    (h_0 : PySem.W.hasDictIn K C0 = true)
    (t_0 : PySem.W.typeIn K (.ref C0) = some (.type "type"))
    (s_0 : PySem.W.subIn K (.ref C0) (.ref C0) = some true)
    (n_1 : PySem.W.nsIn K mainGlobals "BadBars" = some (some (.ref C1)))
    (h_1 : PySem.W.hasDictIn K C1 = true)
    (t_1 : PySem.W.typeIn K (.ref C1) = some (.type "type"))
    (s_1 : PySem.W.subIn K (.ref C1) (.ref C1) = some true)
    (n_2 : PySem.W.nsIn K mainGlobals "BadRules" = some (some (.ref C2)))
    (h_2 : PySem.W.hasDictIn K C2 = true)
    (t_2 : PySem.W.typeIn K (.ref C2) = some (.type "type"))
    (s_2 : PySem.W.subIn K (.ref C2) (.ref C2) = some true)
    (n_3 : PySem.W.nsIn K mainGlobals "BadCount" = some (some (.ref C3)))
    (h_3 : PySem.W.hasDictIn K C3 = true)
    (t_3 : PySem.W.typeIn K (.ref C3) = some (.type "type"))
    (s_3 : PySem.W.subIn K (.ref C3) (.ref C3) = some true)
    (n_4 : PySem.W.nsIn K mainGlobals "BadKept" = some (some (.ref C4)))
    (h_4 : PySem.W.hasDictIn K C4 = true)
    (t_4 : PySem.W.typeIn K (.ref C4) = some (.type "type"))
    (s_4 : PySem.W.subIn K (.ref C4) (.ref C4) = some true)
    (n_5 : PySem.W.nsIn K mainGlobals "TooMany" = some (some (.ref C5)))
    (h_5 : PySem.W.hasDictIn K C5 = true)
    (t_5 : PySem.W.typeIn K (.ref C5) = some (.type "type"))
    (s_5 : PySem.W.subIn K (.ref C5) (.ref C5) = some true)
    (n_6 : PySem.W.nsIn K mainGlobals "NoJar" = some (some (.ref C6)))
    (h_6 : PySem.W.hasDictIn K C6 = true)
    (t_6 : PySem.W.typeIn K (.ref C6) = some (.type "type"))
    (s_6 : PySem.W.subIn K (.ref C6) (.ref C6) = some true)
    (n_7 : PySem.W.nsIn K mainGlobals "BadDeed" = some (some (.ref C7)))
    (h_7 : PySem.W.hasDictIn K C7 = true)
    (t_7 : PySem.W.typeIn K (.ref C7) = some (.type "type"))
    (s_7 : PySem.W.subIn K (.ref C7) (.ref C7) = some true)
    (n_8 : PySem.W.nsIn K mainGlobals "BadText" = some (some (.ref C8)))
    (h_8 : PySem.W.hasDictIn K C8 = true)
    (t_8 : PySem.W.typeIn K (.ref C8) = some (.type "type"))
    (s_8 : PySem.W.subIn K (.ref C8) (.ref C8) = some true)
    (n_9 : PySem.W.nsIn K mainGlobals "RowError" = some (some (.ref C9)))
    (h_9 : PySem.W.hasDictIn K C9 = true)
    (t_9 : PySem.W.typeIn K (.ref C9) = some (.type "type"))
    (s_9 : PySem.W.subIn K (.ref C9) (.ref C9) = some true)
    (b_9 : PySem.W.subIn K (.ref C9) (.type "BaseException") = some true)
    (sn : PySem.W.specialIn K (.builtin "object.__class__") "__get__" = some (some (.builtin "getset_descriptor.__get__")))
    (st : PySem.W.takesIn K (.builtin "object.__class__") = some true)
    (br : PySem.W.readsIn K C9 (.type "type") = true)
    (bg : PySem.W.specialIn K (.ref C9) "__getattribute__" = some (some (.builtin "type.__getattribute__")))
    (bf : PySem.W.findCls K (.ref C9) (.type "type") "__init__" = some (.val (.builtin "ValueError.__init__")))
    (b_0 : PySem.W.subIn K (.ref C0) (.type "BaseException") = some true)
    (p_0 : PySem.W.keepIn K (.ref C0) = true)
    (ol_0 : K.lookup C0 = some (excClassObj nm0 qn0 C0 ns0 bs0 bm0 true sn0 su0 ab0 co0 dd0 ka0 kb0 kc0 kd0 ke0 "ValueError.__new__"))
    (om_0 : PySem.HandSPX.refsVE bm0 = true)
    (os_0 : PySem.W.findIn K (.ref C0) "__setattr__" = some (some (.builtin "object.__setattr__")))
    (if_0 : PySem.W.findIn K (.ref C0) "__init__" = some (some (.ref fi0)))
    (it_0 : PySem.W.typeIn K (.ref fi0) = some (.type "function"))
    (il_0 : K.lookup fi0 = some ⟨ic0, iy0, .func (PySem.W.fnOf "__init__" "BadRow.__init__" (defArgs (ini 3)) (defBody (ini 3)) (defScope (ini 3)) .none iv0 io0 im0 iz0 iw0 ix0), is0⟩)
    (ih_0 : PySem.W.codeIn K iw0 "BadRow.__init__" = true)
    (no_0 : PySem.W.findIn K (.ref C0) "place" = some none)
    (eg_0 : PySem.W.findIn K (.ref C0) "__getattribute__" = some (some (.builtin "BaseException.__getattribute__")))
    (ek_0 : PySem.W.findIn K (.ref C0) "__getattr__" = some none)
    (ea_0 : PySem.W.findIn K (.ref C0) "__class__" = some (some (.builtin "object.__class__")))
    (em_0 : PySem.W.mroIn K C0 (.type "object") = some true)
    (v_0 : PySem.W.subIn K (.ref C0) (.type "ValueError") = some true)
    (r_0 : PySem.W.subIn K (.ref C0) (.ref C9) = some true)
    (q_0_0 : PySem.W.subIn K (.ref C0) (.ref C0) = some true)
    (q_0_1 : PySem.W.subIn K (.ref C0) (.ref C1) = some false)
    (q_0_2 : PySem.W.subIn K (.ref C0) (.ref C2) = some false)
    (q_0_3 : PySem.W.subIn K (.ref C0) (.ref C3) = some false)
    (q_0_4 : PySem.W.subIn K (.ref C0) (.ref C4) = some false)
    (q_0_5 : PySem.W.subIn K (.ref C0) (.ref C5) = some false)
    (q_0_6 : PySem.W.subIn K (.ref C0) (.ref C6) = some false)
    (q_0_7 : PySem.W.subIn K (.ref C0) (.ref C7) = some false)
    (q_0_8 : PySem.W.subIn K (.ref C0) (.ref C8) = some false)
    (b_1 : PySem.W.subIn K (.ref C1) (.type "BaseException") = some true)
    (p_1 : PySem.W.keepIn K (.ref C1) = true)
    (ol_1 : K.lookup C1 = some (excClassObj nm1 qn1 C1 ns1 bs1 bm1 true sn1 su1 ab1 co1 dd1 ka1 kb1 kc1 kd1 ke1 "ValueError.__new__"))
    (om_1 : PySem.HandSPX.refsVE bm1 = true)
    (os_1 : PySem.W.findIn K (.ref C1) "__setattr__" = some (some (.builtin "object.__setattr__")))
    (if_1 : PySem.W.findIn K (.ref C1) "__init__" = some (some (.ref fi1)))
    (it_1 : PySem.W.typeIn K (.ref fi1) = some (.type "function"))
    (il_1 : K.lookup fi1 = some ⟨ic1, iy1, .func (PySem.W.fnOf "__init__" "BadBars.__init__" (defArgs (ini 4)) (defBody (ini 4)) (defScope (ini 4)) .none iv1 io1 im1 iz1 iw1 ix1), is1⟩)
    (ih_1 : PySem.W.codeIn K iw1 "BadBars.__init__" = true)
    (no_1 : PySem.W.findIn K (.ref C1) "number" = some none)
    (eg_1 : PySem.W.findIn K (.ref C1) "__getattribute__" = some (some (.builtin "BaseException.__getattribute__")))
    (ek_1 : PySem.W.findIn K (.ref C1) "__getattr__" = some none)
    (ea_1 : PySem.W.findIn K (.ref C1) "__class__" = some (some (.builtin "object.__class__")))
    (em_1 : PySem.W.mroIn K C1 (.type "object") = some true)
    (v_1 : PySem.W.subIn K (.ref C1) (.type "ValueError") = some true)
    (r_1 : PySem.W.subIn K (.ref C1) (.ref C9) = some true)
    (q_1_0 : PySem.W.subIn K (.ref C1) (.ref C0) = some false)
    (q_1_1 : PySem.W.subIn K (.ref C1) (.ref C1) = some true)
    (q_1_2 : PySem.W.subIn K (.ref C1) (.ref C2) = some false)
    (q_1_3 : PySem.W.subIn K (.ref C1) (.ref C3) = some false)
    (q_1_4 : PySem.W.subIn K (.ref C1) (.ref C4) = some false)
    (q_1_5 : PySem.W.subIn K (.ref C1) (.ref C5) = some false)
    (q_1_6 : PySem.W.subIn K (.ref C1) (.ref C6) = some false)
    (q_1_7 : PySem.W.subIn K (.ref C1) (.ref C7) = some false)
    (q_1_8 : PySem.W.subIn K (.ref C1) (.ref C8) = some false)
    (b_2 : PySem.W.subIn K (.ref C2) (.type "BaseException") = some true)
    (p_2 : PySem.W.keepIn K (.ref C2) = true)
    (ol_2 : K.lookup C2 = some (excClassObj nm2 qn2 C2 ns2 bs2 bm2 true sn2 su2 ab2 co2 dd2 ka2 kb2 kc2 kd2 ke2 "ValueError.__new__"))
    (om_2 : PySem.HandSPX.refsVE bm2 = true)
    (os_2 : PySem.W.findIn K (.ref C2) "__setattr__" = some (some (.builtin "object.__setattr__")))
    (if_2 : PySem.W.findIn K (.ref C2) "__init__" = some (some (.ref fi2)))
    (it_2 : PySem.W.typeIn K (.ref fi2) = some (.type "function"))
    (il_2 : K.lookup fi2 = some ⟨ic2, iy2, .func (PySem.W.fnOf "__init__" "BadRules.__init__" (defArgs (ini 5)) (defBody (ini 5)) (defScope (ini 5)) .none iv2 io2 im2 iz2 iw2 ix2), is2⟩)
    (ih_2 : PySem.W.codeIn K iw2 "BadRules.__init__" = true)
    (no_2 : PySem.W.findIn K (.ref C2) "number" = some none)
    (eg_2 : PySem.W.findIn K (.ref C2) "__getattribute__" = some (some (.builtin "BaseException.__getattribute__")))
    (ek_2 : PySem.W.findIn K (.ref C2) "__getattr__" = some none)
    (ea_2 : PySem.W.findIn K (.ref C2) "__class__" = some (some (.builtin "object.__class__")))
    (em_2 : PySem.W.mroIn K C2 (.type "object") = some true)
    (v_2 : PySem.W.subIn K (.ref C2) (.type "ValueError") = some true)
    (r_2 : PySem.W.subIn K (.ref C2) (.ref C9) = some true)
    (q_2_0 : PySem.W.subIn K (.ref C2) (.ref C0) = some false)
    (q_2_1 : PySem.W.subIn K (.ref C2) (.ref C1) = some false)
    (q_2_2 : PySem.W.subIn K (.ref C2) (.ref C2) = some true)
    (q_2_3 : PySem.W.subIn K (.ref C2) (.ref C3) = some false)
    (q_2_4 : PySem.W.subIn K (.ref C2) (.ref C4) = some false)
    (q_2_5 : PySem.W.subIn K (.ref C2) (.ref C5) = some false)
    (q_2_6 : PySem.W.subIn K (.ref C2) (.ref C6) = some false)
    (q_2_7 : PySem.W.subIn K (.ref C2) (.ref C7) = some false)
    (q_2_8 : PySem.W.subIn K (.ref C2) (.ref C8) = some false)
    (b_3 : PySem.W.subIn K (.ref C3) (.type "BaseException") = some true)
    (p_3 : PySem.W.keepIn K (.ref C3) = true)
    (x_3 : PySem.W.excIn K C3 [.type "ValueError", .type "Exception", .type "BaseException", .type "object"] "ValueError.__new__" = true)
    (eg_3 : PySem.W.findIn K (.ref C3) "__getattribute__" = some (some (.builtin "BaseException.__getattribute__")))
    (ek_3 : PySem.W.findIn K (.ref C3) "__getattr__" = some none)
    (ea_3 : PySem.W.findIn K (.ref C3) "__class__" = some (some (.builtin "object.__class__")))
    (em_3 : PySem.W.mroIn K C3 (.type "object") = some true)
    (v_3 : PySem.W.subIn K (.ref C3) (.type "ValueError") = some true)
    (r_3 : PySem.W.subIn K (.ref C3) (.ref C9) = some true)
    (q_3_0 : PySem.W.subIn K (.ref C3) (.ref C0) = some false)
    (q_3_1 : PySem.W.subIn K (.ref C3) (.ref C1) = some false)
    (q_3_2 : PySem.W.subIn K (.ref C3) (.ref C2) = some false)
    (q_3_3 : PySem.W.subIn K (.ref C3) (.ref C3) = some true)
    (q_3_4 : PySem.W.subIn K (.ref C3) (.ref C4) = some false)
    (q_3_5 : PySem.W.subIn K (.ref C3) (.ref C5) = some false)
    (q_3_6 : PySem.W.subIn K (.ref C3) (.ref C6) = some false)
    (q_3_7 : PySem.W.subIn K (.ref C3) (.ref C7) = some false)
    (q_3_8 : PySem.W.subIn K (.ref C3) (.ref C8) = some false)
    (b_4 : PySem.W.subIn K (.ref C4) (.type "BaseException") = some true)
    (p_4 : PySem.W.keepIn K (.ref C4) = true)
    (ol_4 : K.lookup C4 = some (excClassObj nm4 qn4 C4 ns4 bs4 bm4 true sn4 su4 ab4 co4 dd4 ka4 kb4 kc4 kd4 ke4 "ValueError.__new__"))
    (om_4 : PySem.HandSPX.refsVE bm4 = true)
    (os_4 : PySem.W.findIn K (.ref C4) "__setattr__" = some (some (.builtin "object.__setattr__")))
    (if_4 : PySem.W.findIn K (.ref C4) "__init__" = some (some (.ref fi4)))
    (it_4 : PySem.W.typeIn K (.ref fi4) = some (.type "function"))
    (il_4 : K.lookup fi4 = some ⟨ic4, iy4, .func (PySem.W.fnOf "__init__" "BadKept.__init__" (defArgs (ini 7)) (defBody (ini 7)) (defScope (ini 7)) .none iv4 io4 im4 iz4 iw4 ix4), is4⟩)
    (ih_4 : PySem.W.codeIn K iw4 "BadKept.__init__" = true)
    (no_4 : PySem.W.findIn K (.ref C4) "number" = some none)
    (eg_4 : PySem.W.findIn K (.ref C4) "__getattribute__" = some (some (.builtin "BaseException.__getattribute__")))
    (ek_4 : PySem.W.findIn K (.ref C4) "__getattr__" = some none)
    (ea_4 : PySem.W.findIn K (.ref C4) "__class__" = some (some (.builtin "object.__class__")))
    (em_4 : PySem.W.mroIn K C4 (.type "object") = some true)
    (v_4 : PySem.W.subIn K (.ref C4) (.type "ValueError") = some true)
    (r_4 : PySem.W.subIn K (.ref C4) (.ref C9) = some true)
    (q_4_0 : PySem.W.subIn K (.ref C4) (.ref C0) = some false)
    (q_4_1 : PySem.W.subIn K (.ref C4) (.ref C1) = some false)
    (q_4_2 : PySem.W.subIn K (.ref C4) (.ref C2) = some false)
    (q_4_3 : PySem.W.subIn K (.ref C4) (.ref C3) = some false)
    (q_4_4 : PySem.W.subIn K (.ref C4) (.ref C4) = some true)
    (q_4_5 : PySem.W.subIn K (.ref C4) (.ref C5) = some false)
    (q_4_6 : PySem.W.subIn K (.ref C4) (.ref C6) = some false)
    (q_4_7 : PySem.W.subIn K (.ref C4) (.ref C7) = some false)
    (q_4_8 : PySem.W.subIn K (.ref C4) (.ref C8) = some false)
    (b_5 : PySem.W.subIn K (.ref C5) (.type "BaseException") = some true)
    (p_5 : PySem.W.keepIn K (.ref C5) = true)
    (x_5 : PySem.W.excIn K C5 [.type "ValueError", .type "Exception", .type "BaseException", .type "object"] "ValueError.__new__" = true)
    (eg_5 : PySem.W.findIn K (.ref C5) "__getattribute__" = some (some (.builtin "BaseException.__getattribute__")))
    (ek_5 : PySem.W.findIn K (.ref C5) "__getattr__" = some none)
    (ea_5 : PySem.W.findIn K (.ref C5) "__class__" = some (some (.builtin "object.__class__")))
    (em_5 : PySem.W.mroIn K C5 (.type "object") = some true)
    (v_5 : PySem.W.subIn K (.ref C5) (.type "ValueError") = some true)
    (r_5 : PySem.W.subIn K (.ref C5) (.ref C9) = some true)
    (q_5_0 : PySem.W.subIn K (.ref C5) (.ref C0) = some false)
    (q_5_1 : PySem.W.subIn K (.ref C5) (.ref C1) = some false)
    (q_5_2 : PySem.W.subIn K (.ref C5) (.ref C2) = some false)
    (q_5_3 : PySem.W.subIn K (.ref C5) (.ref C3) = some false)
    (q_5_4 : PySem.W.subIn K (.ref C5) (.ref C4) = some false)
    (q_5_5 : PySem.W.subIn K (.ref C5) (.ref C5) = some true)
    (q_5_6 : PySem.W.subIn K (.ref C5) (.ref C6) = some false)
    (q_5_7 : PySem.W.subIn K (.ref C5) (.ref C7) = some false)
    (q_5_8 : PySem.W.subIn K (.ref C5) (.ref C8) = some false)
    (vL : K.lookup cL = some ⟨ocL, odL, .fields vsL, slL⟩)
    (uL : (vsL[11]? : Option Value) = some (.ref pL))
    (hL : PySem.W.codeHdIn K cL pL = true)
    (oL : K.lookup pL = none)
    (yL : h.get? pL = some { cls := .none, data := .fields #[] })
    (vD : K.lookup cD = some ⟨ocD, odD, .fields vsD, slD⟩)
    (uD : (vsD[11]? : Option Value) = some (.ref pD))
    (hD : PySem.W.codeHdIn K cD pD = true)
    (oD : K.lookup pD = none)
    (yD : h.get? pD = some { cls := .none, data := .fields #[] })
    (xD : pL ≠ pD)
    (hok : LawOkT2 n_law 3 (fun C C2 => @b_law C C2)) : ∃ (fd : FuncData) (cL pL cD pD : Addr), h.get? pL = some { cls := .none, data := .fields #[] } ∧ K.lookup pL = none ∧ PySem.W.CodeHd h cL pL ∧ h.get? pD = some { cls := .none, data := .fields #[] } ∧ K.lookup pD = none ∧ PySem.W.CodeHd h cD pD ∧ pL ≠ pD ∧ (∀ (s : Shared) (v : Value), BindsTo s fd ⟨[v], []⟩ [("_law_script", v)]) ∧ ∀ base : Heap, K.In base → base.Ns mainGlobals mg → LamX.TabB base mg cL pL → LamX.TabB base mg cD pD → FnOk l.prog w K mg base (L2.CX l.prog w) 13 fa fd ["_law_script"] (spLawT2 K pL pD) := by
  have e := hfa.symm.trans (PySem.W.mg_of X G a37)
  cases e
  have T : GT K mg ⟨fun i => [C0, C1, C2, C3, C4, C5, C6, C7, C8, C9, C10].getD i 0, fun i => ["place", "number", "number", "", "number", "", "place", "number", "line", ""].getD i ""⟩ := ⟨⟨_, _, fun_mk (st := s_need_row) l0 c0 k0, PySem.W.mg_of X G a0⟩, ⟨_, _, fun_mk (st := s_need_bars) l1 c1 k1, PySem.W.mg_of X G a1⟩, ⟨_, _, fun_mk (st := s_is_kind) l2 c2 k2, PySem.W.mg_of X G a2⟩, ⟨_, _, fun_mk (st := s_is_rule) l3 c3 k3, PySem.W.mg_of X G a3⟩, ⟨_, _, fun_mk (st := s_need_rules) l4 c4 k4, PySem.W.mg_of X G a4⟩, ⟨_, _, fun_mk (st := s_need_world) l5 c5 k5, PySem.W.mg_of X G a5⟩, ⟨_, _, fun_mk (st := s_begun) l6 c6 k6, PySem.W.mg_of X G a6⟩, ⟨_, _, fun_mk (st := s_beside) l7 c7 k7, PySem.W.mg_of X G a7⟩, ⟨_, _, fun_mk (st := s_counted) l8 c8 k8, PySem.W.mg_of X G a8⟩, ⟨_, _, fun_mk (st := s_turned) l9 c9 k9, PySem.W.mg_of X G a9⟩, ⟨_, _, fun_mk (st := s_beat_of) l10 c10 k10, PySem.W.mg_of X G a10⟩, ⟨_, _, fun_mk (st := s_beats) l11 c11 k11, PySem.W.mg_of X G a11⟩, ⟨_, _, fun_mk (st := s_Shelf___init__) l12 c12 k12, a12, w12⟩, ⟨_, _, fun_mk (st := s_again) l13 c13 k13, PySem.W.mg_of X G a13⟩, ⟨_, _, fun_mk (st := s__law_next) l14 c14 k14, PySem.W.mg_of X G a14⟩, ⟨_, _, fun_mk (st := s__law_rules) l15 c15 k15, PySem.W.mg_of X G a15⟩, ⟨_, _, fun_mk (st := s__law_world) l16 c16 k16, PySem.W.mg_of X G a16⟩, ⟨_, _, fun_mk (st := s_walk) l17 c17 k17, PySem.W.mg_of X G a17⟩, ⟨_, _, fun_mk (st := s_period) l18 c18 k18, PySem.W.mg_of X G a18⟩, ⟨_, _, fun_mk (st := s_after) l19 c19 k19, PySem.W.mg_of X G a19⟩, ⟨_, _, fun_mk (st := s_turns) l20 c20 k20, PySem.W.mg_of X G a20⟩, ⟨_, _, fun_mk (st := s_often) l21 c21 k21, PySem.W.mg_of X G a21⟩, ⟨_, _, fun_mk (st := s_need_kept) l22 c22 k22, PySem.W.mg_of X G a22⟩, ⟨_, _, fun_mk (st := s_first_turn) l23 c23 k23, PySem.W.mg_of X G a23⟩, ⟨_, _, fun_mk (st := s_breaks) l24 c24 k24, PySem.W.mg_of X G a24⟩, ⟨_, _, fun_mk (st := s_choices) l25 c25 k25, PySem.W.mg_of X G a25⟩, ⟨_, _, fun_mk (st := s_fewest_bars) l26 c26 k26, PySem.W.mg_of X G a26⟩, ⟨_, _, fun_mk (st := s_fewest_jars) l27 c27 k27, PySem.W.mg_of X G a27⟩, ⟨_, _, fun_mk (st := s_written) l28 c28 k28, PySem.W.mg_of X G a28⟩, ⟨_, _, fun_mk (st := s_next_kind) l29 c29 k29, PySem.W.mg_of X G a29⟩, ⟨_, _, fun_mk (st := s_side) l30 c30 k30, PySem.W.mg_of X G a30⟩, ⟨_, _, fun_mk (st := s_fits) l31 c31 k31, PySem.W.mg_of X G a31⟩, ⟨_, _, fun_mk (st := s_how_many) l32 c32 k32, PySem.W.mg_of X G a32⟩, ⟨_, _, fun_mk (st := s_sources) l33 c33 k33, PySem.W.mg_of X G a33⟩, ⟨_, _, fun_mk (st := s__law_kind) l34 c34 k34, PySem.W.mg_of X G a34⟩, ⟨_, _, fun_mk (st := s__law_refusals) l35 c35 k35, PySem.W.mg_of X G a35⟩, ⟨_, _, fun_mk (st := s__law_mix) l36 c36 k36, PySem.W.mg_of X G a36⟩, ⟨_, _, fun_mk (st := s_law) l37 c37 k37, PySem.W.mg_of X G a37⟩, ⟨⟨PySem.W.mg_of X G n_10, ⟨op_10, oh_10, oo_10, os_10⟩⟩, om_10, ok_10⟩, na_counts, na_notes, na_row, na_rules, na_walls, ⟨_, PySem.W.mg_of X G g_BAR_notes⟩, ⟨_, PySem.W.mg_of X G g_KINDS⟩, ⟨_, PySem.W.mg_of X G g_MOST_BEATS⟩, ⟨_, PySem.W.mg_of X G g_MOST_FAR⟩, ⟨_, PySem.W.mg_of X G g_MOST_JARS⟩, ⟨_, PySem.W.mg_of X G g_MOST_NEAR⟩, ⟨_, PySem.W.mg_of X G g_MOST_ROWS⟩, ⟨_, PySem.W.mg_of X G g_MOST_RULES⟩, ⟨_, PySem.W.mg_of X G g_MOST_STATES⟩, ⟨_, PySem.W.mg_of X G g_RULE⟩, PySem.W.mg_none_of X G z_ValueError, PySem.W.mg_none_of X G z_enumerate, PySem.W.mg_none_of X G z_int, PySem.W.mg_none_of X G z_isinstance, PySem.W.mg_none_of X G z_len, PySem.W.mg_none_of X G z_list, PySem.W.mg_none_of X G z_max, PySem.W.mg_none_of X G z_min, PySem.W.mg_none_of X G z_range, PySem.W.mg_none_of X G z_sorted, PySem.W.mg_none_of X G z_str, PySem.W.mg_none_of X G z_sum, PySem.W.mg_none_of X G z_tuple, PySem.W.mg_none_of X G z_zip, ⟨PySem.W.mg_of X G n_0, h_0, t_0, s_0⟩, ⟨PySem.W.mg_of X G n_1, h_1, t_1, s_1⟩, ⟨PySem.W.mg_of X G n_2, h_2, t_2, s_2⟩, ⟨PySem.W.mg_of X G n_3, h_3, t_3, s_3⟩, ⟨PySem.W.mg_of X G n_4, h_4, t_4, s_4⟩, ⟨PySem.W.mg_of X G n_5, h_5, t_5, s_5⟩, ⟨PySem.W.mg_of X G n_6, h_6, t_6, s_6⟩, ⟨PySem.W.mg_of X G n_7, h_7, t_7, s_7⟩, ⟨PySem.W.mg_of X G n_8, h_8, t_8, s_8⟩, ⟨PySem.W.mg_of X G n_9, h_9, t_9, s_9⟩, ⟨PySem.W.mg_of X G n_9, ⟨br, bg⟩, bf⟩, ⟨⟨nm0, qn0, ns0, bs0, bm0, sn0, su0, ab0, co0, dd0, ka0, kb0, kc0, kd0, ke0, ol_0, om_0⟩, os_0, b_0, t_0, p_0⟩, ⟨fi0, ic0, iv0, io0, im0, iw0, ix0, iy0, iz0, is0, if_0, it_0, il_0, ih_0⟩, no_0, rfl, ⟨eg_0, ek_0, b_0, h_0, ea_0, sn, st, em_0⟩, v_0, PySem.W.exm_ref b_9 h_9 t_9 r_0, q_0_0, q_0_1, q_0_2, q_0_3, q_0_4, q_0_5, q_0_6, q_0_7, q_0_8, ⟨⟨nm1, qn1, ns1, bs1, bm1, sn1, su1, ab1, co1, dd1, ka1, kb1, kc1, kd1, ke1, ol_1, om_1⟩, os_1, b_1, t_1, p_1⟩, ⟨fi1, ic1, iv1, io1, im1, iw1, ix1, iy1, iz1, is1, if_1, it_1, il_1, ih_1⟩, no_1, rfl, ⟨eg_1, ek_1, b_1, h_1, ea_1, sn, st, em_1⟩, v_1, PySem.W.exm_ref b_9 h_9 t_9 r_1, q_1_0, q_1_1, q_1_2, q_1_3, q_1_4, q_1_5, q_1_6, q_1_7, q_1_8, ⟨⟨nm2, qn2, ns2, bs2, bm2, sn2, su2, ab2, co2, dd2, ka2, kb2, kc2, kd2, ke2, ol_2, om_2⟩, os_2, b_2, t_2, p_2⟩, ⟨fi2, ic2, iv2, io2, im2, iw2, ix2, iy2, iz2, is2, if_2, it_2, il_2, ih_2⟩, no_2, rfl, ⟨eg_2, ek_2, b_2, h_2, ea_2, sn, st, em_2⟩, v_2, PySem.W.exm_ref b_9 h_9 t_9 r_2, q_2_0, q_2_1, q_2_2, q_2_3, q_2_4, q_2_5, q_2_6, q_2_7, q_2_8, ⟨PySem.W.mg_of X G n_3, x_3, p_3, b_3, t_3⟩, ⟨eg_3, ek_3, b_3, h_3, ea_3, sn, st, em_3⟩, v_3, PySem.W.exm_ref b_9 h_9 t_9 r_3, q_3_0, q_3_1, q_3_2, q_3_3, q_3_4, q_3_5, q_3_6, q_3_7, q_3_8, ⟨⟨nm4, qn4, ns4, bs4, bm4, sn4, su4, ab4, co4, dd4, ka4, kb4, kc4, kd4, ke4, ol_4, om_4⟩, os_4, b_4, t_4, p_4⟩, ⟨fi4, ic4, iv4, io4, im4, iw4, ix4, iy4, iz4, is4, if_4, it_4, il_4, ih_4⟩, no_4, rfl, ⟨eg_4, ek_4, b_4, h_4, ea_4, sn, st, em_4⟩, v_4, PySem.W.exm_ref b_9 h_9 t_9 r_4, q_4_0, q_4_1, q_4_2, q_4_3, q_4_4, q_4_5, q_4_6, q_4_7, q_4_8, ⟨PySem.W.mg_of X G n_5, x_5, p_5, b_5, t_5⟩, ⟨eg_5, ek_5, b_5, h_5, ea_5, sn, st, em_5⟩, v_5, PySem.W.exm_ref b_9 h_9 t_9 r_5, q_5_0, q_5_1, q_5_2, q_5_3, q_5_4, q_5_5, q_5_6, q_5_7, q_5_8⟩
  exact ⟨PySem.W.fnOf "law" "law" (defArgs s_law) (defBody s_law) (defScope s_law) .none kV37 dc37 pm37 an37 (.ref cL) ct37, cL, pL, cD, pD, yL, oL, PySem.W.codeHd_of_K X hL, yD, oD, PySem.W.codeHd_of_K X hD, xD, fun s v => .of_eq rfl, fun base _ _ TB TBD => law_c T hok l37 c37 TB ⟨_, _, _, _, _, _, _, _, _, _, l35, c35, k35, PySem.W.mg_of X G a35, TBD⟩⟩
end Dl
open PySem PySem.W PyProof.Rows
set_option maxRecDepth 100000 in
set_option maxHeartbeats 0 in
theorem PySem.Challenge.cw_sourrow_k01_worlds_refused_holds : PySem.Challenge.rw_sourrow_k01_worlds_refused.Holds := by
  w_on; o_law; k_head; (case hw => w_witness2)
  k_fill
  refine Dl.walkT2 (l := PySem.Challenge.rw_sourrow_k01_worlds_refused) (k := 13) rfl rfl ⟨rfl, by decide, by decide⟩ (fun w h Y => PySem.W.km_in_of Y) ?F
  case F =>
    intro w mg fa h Y KX G hmg
    refine' Dl.all_mk KX G hmg ?n_10 ?a0 ?l0 ?c0 ?k0 ?a1 ?l1 ?c1 ?k1 ?a2 ?l2 ?c2 ?k2 ?a3 ?l3 ?c3 ?k3 ?a4 ?l4 ?c4 ?k4 ?a5 ?l5 ?c5 ?k5 ?a6 ?l6 ?c6 ?k6 ?a7 ?l7 ?c7 ?k7 ?a8 ?l8 ?c8 ?k8 ?a9 ?l9 ?c9 ?k9 ?a10 ?l10 ?c10 ?k10 ?a11 ?l11 ?c11 ?k11 ?a12 ?l12 ?c12 ?k12 ?w12 ?a13 ?l13 ?c13 ?k13 ?a14 ?l14 ?c14 ?k14 ?a15 ?l15 ?c15 ?k15 ?a16 ?l16 ?c16 ?k16 ?a17 ?l17 ?c17 ?k17 ?a18 ?l18 ?c18 ?k18 ?a19 ?l19 ?c19 ?k19 ?a20 ?l20 ?c20 ?k20 ?a21 ?l21 ?c21 ?k21 ?a22 ?l22 ?c22 ?k22 ?a23 ?l23 ?c23 ?k23 ?a24 ?l24 ?c24 ?k24 ?a25 ?l25 ?c25 ?k25 ?a26 ?l26 ?c26 ?k26 ?a27 ?l27 ?c27 ?k27 ?a28 ?l28 ?c28 ?k28 ?a29 ?l29 ?c29 ?k29 ?a30 ?l30 ?c30 ?k30 ?a31 ?l31 ?c31 ?k31 ?a32 ?l32 ?c32 ?k32 ?a33 ?l33 ?c33 ?k33 ?a34 ?l34 ?c34 ?k34 ?a35 ?l35 ?c35 ?k35 ?a36 ?l36 ?c36 ?k36 ?a37 ?l37 ?c37 ?k37 ?op_10 ?oh_10 ?oo_10 ?os_10 ?om_10 ?ok_10 ?na_counts ?na_notes ?na_row ?na_rules ?na_walls ?g_BAR_notes ?g_KINDS ?g_MOST_BEATS ?g_MOST_FAR ?g_MOST_JARS ?g_MOST_NEAR ?g_MOST_ROWS ?g_MOST_RULES ?g_MOST_STATES ?g_RULE ?z_ValueError ?z_enumerate ?z_int ?z_isinstance ?z_len ?z_list ?z_max ?z_min ?z_range ?z_sorted ?z_str ?z_sum ?z_tuple ?z_zip ?n_0 ?h_0 ?t_0 ?s_0 ?n_1 ?h_1 ?t_1 ?s_1 ?n_2 ?h_2 ?t_2 ?s_2 ?n_3 ?h_3 ?t_3 ?s_3 ?n_4 ?h_4 ?t_4 ?s_4 ?n_5 ?h_5 ?t_5 ?s_5 ?n_6 ?h_6 ?t_6 ?s_6 ?n_7 ?h_7 ?t_7 ?s_7 ?n_8 ?h_8 ?t_8 ?s_8 ?n_9 ?h_9 ?t_9 ?s_9 ?b_9 ?sn ?st ?br ?bg ?bf ?b_0 ?p_0 ?ol_0 ?om_0 ?os_0 ?if_0 ?it_0 ?il_0 ?ih_0 ?no_0 ?eg_0 ?ek_0 ?ea_0 ?em_0 ?v_0 ?r_0 ?q_0_0 ?q_0_1 ?q_0_2 ?q_0_3 ?q_0_4 ?q_0_5 ?q_0_6 ?q_0_7 ?q_0_8 ?b_1 ?p_1 ?ol_1 ?om_1 ?os_1 ?if_1 ?it_1 ?il_1 ?ih_1 ?no_1 ?eg_1 ?ek_1 ?ea_1 ?em_1 ?v_1 ?r_1 ?q_1_0 ?q_1_1 ?q_1_2 ?q_1_3 ?q_1_4 ?q_1_5 ?q_1_6 ?q_1_7 ?q_1_8 ?b_2 ?p_2 ?ol_2 ?om_2 ?os_2 ?if_2 ?it_2 ?il_2 ?ih_2 ?no_2 ?eg_2 ?ek_2 ?ea_2 ?em_2 ?v_2 ?r_2 ?q_2_0 ?q_2_1 ?q_2_2 ?q_2_3 ?q_2_4 ?q_2_5 ?q_2_6 ?q_2_7 ?q_2_8 ?b_3 ?p_3 ?x_3 ?eg_3 ?ek_3 ?ea_3 ?em_3 ?v_3 ?r_3 ?q_3_0 ?q_3_1 ?q_3_2 ?q_3_3 ?q_3_4 ?q_3_5 ?q_3_6 ?q_3_7 ?q_3_8 ?b_4 ?p_4 ?ol_4 ?om_4 ?os_4 ?if_4 ?it_4 ?il_4 ?ih_4 ?no_4 ?eg_4 ?ek_4 ?ea_4 ?em_4 ?v_4 ?r_4 ?q_4_0 ?q_4_1 ?q_4_2 ?q_4_3 ?q_4_4 ?q_4_5 ?q_4_6 ?q_4_7 ?q_4_8 ?b_5 ?p_5 ?x_5 ?eg_5 ?ek_5 ?ea_5 ?em_5 ?v_5 ?r_5 ?q_5_0 ?q_5_1 ?q_5_2 ?q_5_3 ?q_5_4 ?q_5_5 ?q_5_6 ?q_5_7 ?q_5_8 ?vL ?uL ?hL ?oL ?yL ?vD ?uD ?hD ?oD ?yD ?xD Dl.law_ok
    (case n_10 => k_is); (case a0 => k_is); (case l0 => k_is); (case c0 => k_is)
    (case k0 => k_is); (case a1 => k_is); (case l1 => k_is); (case c1 => k_is)
    (case k1 => k_is); (case a2 => k_is); (case l2 => k_is); (case c2 => k_is)
    (case k2 => k_is); (case a3 => k_is); (case l3 => k_is); (case c3 => k_is)
    (case k3 => k_is); (case a4 => k_is); (case l4 => k_is); (case c4 => k_is)
    (case k4 => k_is); (case a5 => k_is); (case l5 => k_is); (case c5 => k_is)
    (case k5 => k_is); (case a6 => k_is); (case l6 => k_is); (case c6 => k_is)
    (case k6 => k_is); (case a7 => k_is); (case l7 => k_is); (case c7 => k_is)
    (case k7 => k_is); (case a8 => k_is); (case l8 => k_is); (case c8 => k_is)
    (case k8 => k_is); (case a9 => k_is); (case l9 => k_is); (case c9 => k_is)
    (case k9 => k_is); (case a10 => k_is); (case l10 => k_is); (case c10 => k_is)
    (case k10 => k_is); (case a11 => k_is); (case l11 => k_is); (case c11 => k_is)
    (case k11 => k_is); (case a12 => k_is); (case l12 => k_is); (case c12 => k_is)
    (case k12 => k_is); (case w12 => k_is); (case a13 => k_is); (case l13 => k_is)
    (case c13 => k_is); (case k13 => k_is); (case a14 => k_is); (case l14 => k_is)
    (case c14 => k_is); (case k14 => k_is); (case a15 => k_is); (case l15 => k_is)
    (case c15 => k_is); (case k15 => k_is); (case a16 => k_is); (case l16 => k_is)
    (case c16 => k_is); (case k16 => k_is); (case a17 => k_is); (case l17 => k_is)
    (case c17 => k_is); (case k17 => k_is); (case a18 => k_is); (case l18 => k_is)
    (case c18 => k_is); (case k18 => k_is); (case a19 => k_is); (case l19 => k_is)
    (case c19 => k_is); (case k19 => k_is); (case a20 => k_is); (case l20 => k_is)
    (case c20 => k_is); (case k20 => k_is); (case a21 => k_is); (case l21 => k_is)
    (case c21 => k_is); (case k21 => k_is); (case a22 => k_is); (case l22 => k_is)
    (case c22 => k_is); (case k22 => k_is); (case a23 => k_is); (case l23 => k_is)
    (case c23 => k_is); (case k23 => k_is); (case a24 => k_is); (case l24 => k_is)
    (case c24 => k_is); (case k24 => k_is); (case a25 => k_is); (case l25 => k_is)
    (case c25 => k_is); (case k25 => k_is); (case a26 => k_is); (case l26 => k_is)
    (case c26 => k_is); (case k26 => k_is); (case a27 => k_is); (case l27 => k_is)
    (case c27 => k_is); (case k27 => k_is); (case a28 => k_is); (case l28 => k_is)
    (case c28 => k_is); (case k28 => k_is); (case a29 => k_is); (case l29 => k_is)
    (case c29 => k_is); (case k29 => k_is); (case a30 => k_is); (case l30 => k_is)
    (case c30 => k_is); (case k30 => k_is); (case a31 => k_is); (case l31 => k_is)
    (case c31 => k_is); (case k31 => k_is); (case a32 => k_is); (case l32 => k_is)
    (case c32 => k_is); (case k32 => k_is); (case a33 => k_is); (case l33 => k_is)
    (case c33 => k_is); (case k33 => k_is); (case a34 => k_is); (case l34 => k_is)
    (case c34 => k_is); (case k34 => k_is); (case a35 => k_is); (case l35 => k_is)
    (case c35 => k_is); (case k35 => k_is); (case a36 => k_is); (case l36 => k_is)
    (case c36 => k_is); (case k36 => k_is); (case a37 => k_is); (case l37 => k_is)
    (case c37 => k_is); (case k37 => k_is); (case op_10 => k_is); (case oh_10 => k_is)
    (case oo_10 => k_is); (case os_10 => k_is); (case om_10 => k_is); (case ok_10 => k_is)
    (case na_counts => k_is); (case na_notes => k_is); (case na_row => k_is); (case na_rules => k_is)
    (case na_walls => k_is); (case g_BAR_notes => k_is); (case g_KINDS => k_is); (case g_MOST_BEATS => k_is)
    (case g_MOST_FAR => k_is); (case g_MOST_JARS => k_is); (case g_MOST_NEAR => k_is); (case g_MOST_ROWS => k_is)
    (case g_MOST_RULES => k_is); (case g_MOST_STATES => k_is); (case g_RULE => k_is); (case z_ValueError => k_is)
    (case z_enumerate => k_is); (case z_int => k_is); (case z_isinstance => k_is); (case z_len => k_is)
    (case z_list => k_is); (case z_max => k_is); (case z_min => k_is); (case z_range => k_is)
    (case z_sorted => k_is); (case z_str => k_is); (case z_sum => k_is); (case z_tuple => k_is)
    (case z_zip => k_is); (case n_0 => k_is); (case h_0 => k_is); (case t_0 => k_is)
    (case s_0 => k_is); (case n_1 => k_is); (case h_1 => k_is); (case t_1 => k_is)
    (case s_1 => k_is); (case n_2 => k_is); (case h_2 => k_is); (case t_2 => k_is)
    (case s_2 => k_is); (case n_3 => k_is); (case h_3 => k_is); (case t_3 => k_is)
    (case s_3 => k_is); (case n_4 => k_is); (case h_4 => k_is); (case t_4 => k_is)
    (case s_4 => k_is); (case n_5 => k_is); (case h_5 => k_is); (case t_5 => k_is)
    (case s_5 => k_is); (case n_6 => k_is); (case h_6 => k_is); (case t_6 => k_is)
    (case s_6 => k_is); (case n_7 => k_is); (case h_7 => k_is); (case t_7 => k_is)
    (case s_7 => k_is); (case n_8 => k_is); (case h_8 => k_is); (case t_8 => k_is)
    (case s_8 => k_is); (case n_9 => k_is); (case h_9 => k_is); (case t_9 => k_is)
    (case s_9 => k_is); (case b_9 => k_is); (case sn => k_is); (case st => k_is)
    (case br => k_is); (case bg => k_is); (case bf => k_is); (case b_0 => k_is)
    (case p_0 => k_is); (case ol_0 => k_is); (case om_0 => kernel_rfl); (case os_0 => k_is)
    (case if_0 => k_is); (case it_0 => k_is); (case il_0 => k_is); (case ih_0 => k_is)
    (case no_0 => k_is); (case eg_0 => k_is); (case ek_0 => k_is); (case ea_0 => k_is)
    (case em_0 => k_is); (case v_0 => k_is); (case r_0 => k_is); (case q_0_0 => k_is)
    (case q_0_1 => k_is); (case q_0_2 => k_is); (case q_0_3 => k_is); (case q_0_4 => k_is)
    (case q_0_5 => k_is); (case q_0_6 => k_is); (case q_0_7 => k_is); (case q_0_8 => k_is)
    (case b_1 => k_is); (case p_1 => k_is); (case ol_1 => k_is); (case om_1 => kernel_rfl)
    (case os_1 => k_is); (case if_1 => k_is); (case it_1 => k_is); (case il_1 => k_is)
    (case ih_1 => k_is); (case no_1 => k_is); (case eg_1 => k_is); (case ek_1 => k_is)
    (case ea_1 => k_is); (case em_1 => k_is); (case v_1 => k_is); (case r_1 => k_is)
    (case q_1_0 => k_is); (case q_1_1 => k_is); (case q_1_2 => k_is); (case q_1_3 => k_is)
    (case q_1_4 => k_is); (case q_1_5 => k_is); (case q_1_6 => k_is); (case q_1_7 => k_is)
    (case q_1_8 => k_is); (case b_2 => k_is); (case p_2 => k_is); (case ol_2 => k_is)
    (case om_2 => kernel_rfl); (case os_2 => k_is); (case if_2 => k_is); (case it_2 => k_is)
    (case il_2 => k_is); (case ih_2 => k_is); (case no_2 => k_is); (case eg_2 => k_is)
    (case ek_2 => k_is); (case ea_2 => k_is); (case em_2 => k_is); (case v_2 => k_is)
    (case r_2 => k_is); (case q_2_0 => k_is); (case q_2_1 => k_is); (case q_2_2 => k_is)
    (case q_2_3 => k_is); (case q_2_4 => k_is); (case q_2_5 => k_is); (case q_2_6 => k_is)
    (case q_2_7 => k_is); (case q_2_8 => k_is); (case b_3 => k_is); (case p_3 => k_is)
    (case x_3 => k_exc); (case eg_3 => k_is); (case ek_3 => k_is); (case ea_3 => k_is)
    (case em_3 => k_is); (case v_3 => k_is); (case r_3 => k_is); (case q_3_0 => k_is)
    (case q_3_1 => k_is); (case q_3_2 => k_is); (case q_3_3 => k_is); (case q_3_4 => k_is)
    (case q_3_5 => k_is); (case q_3_6 => k_is); (case q_3_7 => k_is); (case q_3_8 => k_is)
    (case b_4 => k_is); (case p_4 => k_is); (case ol_4 => k_is); (case om_4 => kernel_rfl)
    (case os_4 => k_is); (case if_4 => k_is); (case it_4 => k_is); (case il_4 => k_is)
    (case ih_4 => k_is); (case no_4 => k_is); (case eg_4 => k_is); (case ek_4 => k_is)
    (case ea_4 => k_is); (case em_4 => k_is); (case v_4 => k_is); (case r_4 => k_is)
    (case q_4_0 => k_is); (case q_4_1 => k_is); (case q_4_2 => k_is); (case q_4_3 => k_is)
    (case q_4_4 => k_is); (case q_4_5 => k_is); (case q_4_6 => k_is); (case q_4_7 => k_is)
    (case q_4_8 => k_is); (case b_5 => k_is); (case p_5 => k_is); (case x_5 => k_exc)
    (case eg_5 => k_is); (case ek_5 => k_is); (case ea_5 => k_is); (case em_5 => k_is)
    (case v_5 => k_is); (case r_5 => k_is); (case q_5_0 => k_is); (case q_5_1 => k_is)
    (case q_5_2 => k_is); (case q_5_3 => k_is); (case q_5_4 => k_is); (case q_5_5 => k_is)
    (case q_5_6 => k_is); (case q_5_7 => k_is); (case q_5_8 => k_is); (case vL => k_is)
    (case uL => rfl); (case hL => kernel_rfl); (case oL => kernel_rfl); (case yL => exact PySem.W.km_tabs_of Y _ (by k_mem))
    (case vD => k_is); (case uD => rfl); (case hD => kernel_rfl); (case oD => kernel_rfl)
    (case yD => exact PySem.W.km_tabs_of Y _ (by k_mem)); (case xD => decide)

