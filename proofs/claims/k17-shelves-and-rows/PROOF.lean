import PyProof.Rows.All
import Wide.All
import OpenK.AllK
import Wide.FinOn
import HandS.ForMost
import HandS.Exc
import HandS.TryOnly
import HandS.WordsExc
import KE.KDictKeyed
import KE.KeyNested
import HandS.Lambda
import KE.KDflt
import HandS.TupAny
import HandS.TupMul
import HandS.Flow
import HandS.Wide
import PyProof.StrBlock2
import HandS.IsInst
import HandS.Walk
import HandS.Style
import KE.GoesNew
import HandS.ReplaceLit
import HandS.ReplaceList
import HandS.RaiseMore
import KE.KDictSum
import HandS.DictComp
import HandS.Nested
import HandS.ExcInit
import HandS.ExcField
import HandS.ExcIs
import HandS.ClsMeth
import HandS.EndTab
import HandS.NestedK
import KE.KNestM
import HandS.Conv
import KE.KDictZip
import PyProof.CollectWalk
import HandS.Keys
import PyProof.Rows.SortShellAny
import PyProof.CollectIter
import HandS.HeadHook3
import PySem.Challenge.RW_sourrow_k17_whole_shelves_and_rows
set_option Elab.async false
set_option linter.all false
set_option maxRecDepth 100000
set_option maxHeartbeats 4000000
set_option autoImplicit true
/-! The data layer: values as trees, what a piece of syntax gives, over the hand layer. -/
namespace Dl
open PySem PySem.Spec PyProof.Rows L2

/-- a lambda of a def: its text, the cells that it captured -/
structure LamD where
  params : Arguments
  body : Expr
  scope : Scope
  qual : Str
  clo : List (Str × Addr)
/-- the object at f is such a lambda, its code object at c, its defaults dV -/
def LamO (L : LamD) (c : Addr) (dV : Value) (f : Addr) : HO := .ext fun h => ∃ doc pm ctv, h.get? f = some (PySem.W.kdv_obj "<lambda>" L.qual L.params (.expr L.body) L.scope L.clo dV doc pm c ctv)
/-- a value as a tree -/
inductive D where
  | non
  | bl (b : Bool)
  | int (i : Int)
  | str (s : List Nat)
  | tup (l : List D)
  | lst (l : List D)
  | dct (ks vs : List D)
  | own (ks vs : List D)
  | obj (n : Nat)
  | cst (v : V)
  | fn (k : Nat) (L : LamD)
  | erx (e dd : Addr) (f : Str) (i : Int)
  deriving Inhabited
/-- what a slot holds: a value that stands, or a list (a dict) of its own -/
inductive Cell where
  | val (d : D)
  | lst (l : List D)
  | dct (ks vs : List D)
/-- an object that is handed on by its place -/
inductive MObj where
  | drw (m : Int) (cs : List Int) (p : Int)
  | ins (x : Str) (fs : List (Str × Cell))
  | dct (ks vs : List D)
  | tab (p : Addr) (q : Str)
abbrev PWd := Program × World × (Str → Option Value)
abbrev pwOf (X : Cx) : PWd := (X.prog, X.w, X.mg)
abbrev Env := List (Option Cell)
abbrev Sto := List MObj

mutual
/-- a value as a dict's key -/
def keyOf : D → Option NestedKey
  | .non => some .none
  | .bl b => some (.num (if b = true then 1 else 0))
  | .int i => some (.num i)
  | .str s => some (.text ⟨s.toArray⟩)
  | .tup l => match keysOf l with
    | some ks => some (.tup ks)
    | none => none
  | _ => none
def keysOf : List D → Option (List NestedKey)
  | [] => some []
  | d :: l => match keyOf d, keysOf l with
    | some k, some ks => some (k :: ks)
    | _, _ => none
end
/-- a dict whose keys are tuples: its entries, its epoch -/
def dN (pw : PWd) (a : Addr) (xs : List (NestedKey × Addr × V)) (ep : Nat) : HO := .ext fun h => ∃ (o : Obj) (es : Array DictEntry) (ys : List (NestedKey × Addr × Value)),
  h.get? a = some o ∧ o.ExactDict ∧ o.data = .dict es ep ∧ es.toList = ys.map (entryOfKey (nestedKind pw.1 pw.2.1)) ∧ Paired (fun x y => x.1 = y.1 ∧ x.2.1 = y.2.1 ∧ RelV x.2.2 y.2.2) xs ys ∧ (a == sysModules) = false ∧ xs.length ≤ sizeLine ∧ (xs.map (·.1)).Nodup
mutual
inductive Rep (F : Hp) (io : List Addr) : D → V → Prop
  | non : Rep F io .non .non
  | bl (b : Bool) : Rep F io (.bl b) (.bl b)
  | int (i : Int) : Rep F io (.int i) (.int i)
  | str (s : List Nat) : Rep F io (.str s) (.str ⟨s.toArray⟩)
  | tup {a : Addr} {ds : List D} {vs : List V} : F a = some (.tup vs) → Reps F io ds vs → Rep F io (.tup ds) (.ref a)
  | lst {a : Addr} {ds : List D} {vs : List V} : F a = some (.lst vs) → Reps F io ds vs → Rep F io (.lst ds) (.ref a)
  | obj {n : Nat} {a : Addr} : io[n]? = some a → Rep F io (.obj n) (.ref a)
  | dct {pw : PWd} {a : Addr} {ep : Nat} {ks vs : List D} {xs : List (NestedKey × Addr × V)} : F a = some (dN pw a xs ep) → DPairs F io ks vs xs → Rep F io (.dct ks vs) (.ref a)
  | cst (v : V) : Rep F io (.cst v) v
  | fn {k : Nat} {L : LamD} {f c : Addr} {dV : Value} : F f = some (LamO L c dV f) → F c = some (LamX.CodeO c L.qual) → ((L.params.defaults.isEmpty = true ∧ dV = .none) ∨ (L.params.defaults.isEmpty = false ∧ ∃ t, dV = .ref t ∧ F t = some (.tup [.int 0]))) → Rep F io (.fn k L) (.ref f)
  | erx {e dd : Addr} {f : Str} {i : Int} : F dd = some (.xd [(f, .int i)]) → Rep F io (.erx e dd f i) (.ref e)
inductive Reps (F : Hp) (io : List Addr) : List D → List V → Prop
  | nil : Reps F io [] []
  | cons {d : D} {v : V} {ds : List D} {vs : List V} : Rep F io d v → Reps F io ds vs → Reps F io (d :: ds) (v :: vs)
inductive DPairs (F : Hp) (io : List Addr) : List D → List D → List (NestedKey × Addr × V) → Prop
  | nil : DPairs F io [] [] []
  | cons {k v : D} {u : V} {b : Addr} {kk : NestedKey} {ks vs : List D} {xs : List (NestedKey × Addr × V)} : Rep F io k (.ref b) → keyOf k = some kk → kk.depth ≤ 8 → Rep F io v u → DPairs F io ks vs xs → DPairs F io (k :: ks) (v :: vs) ((kk, b, u) :: xs)
end
def Sub (F F' : Hp) : Prop := ∀ a o, F a = some o → F' a = some o
theorem Sub.refl (F : Hp) : Sub F F := fun _ _ h => h
theorem Sub.trans {F F1 F2 : Hp} (a : Sub F F1) (b : Sub F1 F2) : Sub F F2 := fun c o h => b c o (a c o h)
def Pfx (l m : List Addr) : Prop := ∃ r, m = l ++ r
theorem Pfx.refl (l : List Addr) : Pfx l l := ⟨[], by simp⟩
theorem Pfx.trans {l m n : List Addr} (a : Pfx l m) (b : Pfx m n) : Pfx l n := by
  obtain ⟨r, rfl⟩ := a
  obtain ⟨s, rfl⟩ := b
  exact ⟨r ++ s, by simp⟩
theorem Pfx.get {l m : List Addr} (a : Pfx l m) {n : Nat} {b : Addr} (h : l[n]? = some b) : m[n]? = some b := by
  obtain ⟨r, rfl⟩ := a
  have := (List.getElem?_eq_some_iff.mp h).1
  rw [List.getElem?_append_left this]
  exact h
section
variable {pw : PWd} {F F' : Hp} {io io' : List Addr}
mutual
theorem Rep.mono (hF : Sub F F') (hi : Pfx io io') : ∀ {d : D} {v : V}, Rep F io d v → Rep F' io' d v
  | _, _, .non => .non
  | _, _, .bl b => .bl b
  | _, _, .int i => .int i
  | _, _, .str s => .str s
  | _, _, .tup e r => .tup (hF _ _ e) (Reps.mono hF hi r)
  | _, _, .lst e r => .lst (hF _ _ e) (Reps.mono hF hi r)
  | _, _, .obj e => .obj (hi.get e)
  | _, _, .cst v => .cst v
  | _, _, .fn e1 e2 e3 => .fn (hF _ _ e1) (hF _ _ e2) (e3.imp (fun z => z) fun ⟨h0, t, h1, h2⟩ => ⟨h0, t, h1, hF _ _ h2⟩)
  | _, _, .erx e1 => .erx (hF _ _ e1)
  | _, _, .dct e r => .dct (hF _ _ e) (DPairs.mono hF hi r)
theorem DPairs.mono (hF : Sub F F') (hi : Pfx io io') : ∀ {ks vs : List D} {xs : List (NestedKey × Addr × V)}, DPairs F io ks vs xs → DPairs F' io' ks vs xs
  | _, _, _, .nil => .nil
  | _, _, _, .cons r e z q t => .cons (Rep.mono hF hi r) e z (Rep.mono hF hi q) (DPairs.mono hF hi t)
theorem Reps.mono (hF : Sub F F') (hi : Pfx io io') : ∀ {ds : List D} {vs : List V}, Reps F io ds vs → Reps F' io' ds vs
  | _, _, .nil => .nil
  | _, _, .cons r t => .cons (Rep.mono hF hi r) (Reps.mono hF hi t)
end
theorem Reps.length : ∀ {ds : List D} {vs : List V}, Reps F io ds vs → ds.length = vs.length
  | _, _, .nil => rfl
  | _, _, .cons _ t => congrArg (· + 1) (Reps.length t)
theorem Reps.get : ∀ {ds : List D} {vs : List V} {i : Nat} {d : D}, Reps F io ds vs → ds[i]? = some d → ∃ v, vs[i]? = some v ∧ Rep F io d v
  | _, _, _, _, .nil, e => by simp at e
  | _, _, 0, _, .cons r _, e => by simp at e; subst e; exact ⟨_, rfl, r⟩
  | _, _, i + 1, d, .cons _ t, e => by
    obtain ⟨u, h1, h2⟩ := Reps.get (i := i) (d := d) t (by simpa using e)
    exact ⟨u, by simpa using h1, h2⟩
theorem Reps.getV : ∀ {ds : List D} {vs : List V} {i : Nat} {v : V}, Reps F io ds vs → vs[i]? = some v → ∃ d, ds[i]? = some d ∧ Rep F io d v
  | _, _, _, _, .nil, e => by simp at e
  | _, _, 0, _, .cons r _, e => by simp at e; subst e; exact ⟨_, rfl, r⟩
  | _, _, i + 1, d, .cons _ t, e => by
    obtain ⟨u, h1, h2⟩ := Reps.getV (i := i) (v := d) t (by simpa using e)
    exact ⟨u, by simpa using h1, h2⟩
theorem Reps.append : ∀ {ds es : List D} {vs us : List V}, Reps F io ds vs → Reps F io es us → Reps F io (ds ++ es) (vs ++ us)
  | _, _, _, _, .nil, s => s
  | _, _, _, _, .cons r t, s => .cons r (Reps.append t s)
theorem Reps.take : ∀ {ds : List D} {vs : List V} (n : Nat), Reps F io ds vs → Reps F io (ds.take n) (vs.take n)
  | _, _, 0, _ => .nil
  | _, _, _ + 1, .nil => .nil
  | _, _, n + 1, .cons r t => .cons r (Reps.take n t)
theorem Reps.drop : ∀ {ds : List D} {vs : List V} (n : Nat), Reps F io ds vs → Reps F io (ds.drop n) (vs.drop n)
  | _, _, 0, r => r
  | _, _, _ + 1, .nil => .nil
  | _, _, n + 1, .cons _ t => Reps.drop n t
theorem Reps.set {d : D} {v : V} (r : Rep F io d v) : ∀ {ds : List D} {vs : List V} (i : Nat), Reps F io ds vs → Reps F io (ds.set i d) (vs.set i v)
  | _, _, _, .nil => .nil
  | _, _, 0, .cons _ t => .cons r t
  | _, _, i + 1, .cons q t => .cons q (Reps.set r i t)
end

/-- a cell, its value, the places that are its own -/
inductive CellR (pw : PWd) (F : Hp) (io : List Addr) (H : Hp) : Cell → V → List Addr → Prop
  | val {d : D} {v : V} : Rep F io d v → CellR pw F io H (.val d) v []
  | lst {a : Addr} {ds : List D} {vs : List V} : H a = some (.lst vs) → Reps F io ds vs → CellR pw F io H (.lst ds) (.ref a) [a]
  | dct {a : Addr} {ep : Nat} {ks vs : List D} {xs : List (NestedKey × Addr × V)} : H a = some (dN pw a xs ep) → DPairs F io ks vs xs → CellR pw F io H (.dct ks vs) (.ref a) [a]
inductive Vars (pw : PWd) (F : Hp) (io : List Addr) (H : Hp) : Env → L2.St → List Addr → Prop
  | nil : Vars pw F io H [] [] []
  | skip {o : Option V} {r : Env} {s : L2.St} {A : List Addr} : Vars pw F io H r s A → Vars pw F io H (none :: r) (o :: s) A
  | cons {c : Cell} {v : V} {r : Env} {s : L2.St} {A0 A : List Addr} : CellR pw F io H c v A0 → Vars pw F io H r s A → Vars pw F io H (some c :: r) (some v :: s) (A0 ++ A)
/-- an instance's fields: their names, their cells, the places that are theirs -/
inductive Flds (pw : PWd) (F : Hp) (io : List Addr) (H : Hp) : List (Str × Cell) → List (Str × V) → List Addr → Prop
  | nil : Flds pw F io H [] [] []
  | cons {n : Str} {c : Cell} {v : V} {fs : List (Str × Cell)} {gs : List (Str × V)} {A0 A : List Addr} : CellR pw F io H c v A0 → Flds pw F io H fs gs A → Flds pw F io H ((n, c) :: fs) ((n, v) :: gs) (A0 ++ A)
inductive ObjR (pw : PWd) (F : Hp) (io : List Addr) (H : Hp) : MObj → Addr → List Addr → Prop
  | drw {a b : Addr} {m p : Int} {cs : List Int} : H a = some (.lst [.int m, .ref b, .int p]) → H b = some (.lst (cs.map V.int)) → ObjR pw F io H (.drw m cs p) a [a, b]
  | dct {a : Addr} {ep : Nat} {ks vs : List D} {xs : List (NestedKey × Addr × V)} : H a = some (dN pw a xs ep) → DPairs F io ks vs xs → ObjR pw F io H (.dct ks vs) a [a]
  | tab {a : Addr} {q : Str} {ps : Array Value} : H a = some (.tbl ps) → TriplesOk ps.toList → (∀ (pos : Pos) (cv : Value), codeAmong pos ps.toList = some cv → ∃ c, cv = .ref c ∧ F c = some (LamX.CodeO c q)) → ObjR pw F io H (.tab a q) a [a]
  | ins {a dx C : Addr} {x : Str} {fs : List (Str × Cell)} {gs : List (Str × V)} {A : List Addr} : pw.2.2 x = some (.ref C) → H a = some (.ins C dx gs) → H dx = some (.own a) → Flds pw F io H fs gs A → ObjR pw F io H (.ins x fs) a (a :: dx :: A)
inductive Stos (pw : PWd) (F : Hp) (io : List Addr) (H : Hp) : Sto → List Addr → List Addr → Prop
  | nil : Stos pw F io H [] [] []
  | cons {o : MObj} {a : Addr} {m : Sto} {l A0 A : List Addr} : ObjR pw F io H o a A0 → Stos pw F io H m l A → Stos pw F io H (o :: m) (a :: l) (A0 ++ A)

section
variable {pw : PWd} {F F' : Hp} {io io' : List Addr} {H H' : Hp}
def Keep (A : List Addr) (H H' : Hp) : Prop := ∀ b ∈ A, ∀ o, H b = some o → H' b = some o
theorem CellR.mono (hF : Sub F F') (hi : Pfx io io') {c : Cell} {v : V} {A : List Addr} (h : CellR pw F io H c v A) (k : Keep A H H') : CellR pw F' io' H' c v A := by
  cases h with
  | val r => exact .val (r.mono hF hi)
  | lst e r => exact .lst (k _ (by simp) _ e) (r.mono hF hi)
  | dct e r => exact .dct (k _ (by simp) _ e) (r.mono hF hi)
theorem CellR.there {c : Cell} {v : V} {A : List Addr} (h : CellR pw F io H c v A) : ∀ b ∈ A, H b ≠ none := by
  cases h with
  | val r => intro b hb; cases hb
  | lst e r =>
    intro b hb
    have hb := List.mem_singleton.mp hb
    subst hb
    rw [e]
    exact fun z => by cases z
  | dct e r =>
    intro b hb
    have hb := List.mem_singleton.mp hb
    subst hb
    rw [e]
    exact fun z => by cases z
theorem Flds.mono (hF : Sub F F') (hi : Pfx io io') : ∀ {fs : List (Str × Cell)} {gs : List (Str × V)} {A : List Addr}, Flds pw F io H fs gs A → Keep A H H' → Flds pw F' io' H' fs gs A
  | _, _, _, .nil, _ => .nil
  | _, _, _, .cons c t, k => .cons (c.mono hF hi fun b hb => k b (List.mem_append_left _ hb)) (Flds.mono hF hi t fun b hb => k b (List.mem_append_right _ hb))
theorem Flds.there : ∀ {fs : List (Str × Cell)} {gs : List (Str × V)} {A : List Addr}, Flds pw F io H fs gs A → ∀ b ∈ A, H b ≠ none
  | _, _, _, .nil => fun b hb => by cases hb
  | _, _, _, .cons c t => fun b hb => (List.mem_append.mp hb).elim (c.there b) (Flds.there t b)
theorem ObjR.mono (hF : Sub F F') (hi : Pfx io io') {o : MObj} {a : Addr} {A : List Addr} (h : ObjR pw F io H o a A) (k : Keep A H H') : ObjR pw F' io' H' o a A := by
  cases h with
  | drw e1 e2 => exact .drw (k _ (by simp) _ e1) (k _ (by simp) _ e2)
  | dct e r => exact .dct (k _ (by simp) _ e) (r.mono hF hi)
  | tab e1 e2 e3 => exact .tab (k _ (by simp) _ e1) e2 fun pos cv h => let ⟨c, h1, h2⟩ := e3 pos cv h; ⟨c, h1, hF _ _ h2⟩
  | ins e0 e1 e2 t => exact .ins e0 (k _ (by simp) _ e1) (k _ (by simp) _ e2) (t.mono hF hi fun b hb => k b (List.mem_cons_of_mem _ (List.mem_cons_of_mem _ hb)))
theorem ObjR.there {o : MObj} {a : Addr} {A : List Addr} (h : ObjR pw F io H o a A) : ∀ b ∈ A, H b ≠ none := by
  cases h with
  | drw e1 e2 =>
    intro b hb
    simp only [List.mem_cons, List.not_mem_nil, or_false] at hb
    rcases hb with rfl | rfl
    · rw [e1]; exact fun z => by cases z
    · rw [e2]; exact fun z => by cases z
  | dct e r =>
    intro b hb
    have hb := List.mem_singleton.mp hb
    subst hb
    rw [e]
    exact fun z => by cases z
  | tab e1 e2 e3 =>
    intro b hb
    have hb := List.mem_singleton.mp hb
    subst hb
    rw [e1]
    exact fun z => by cases z
  | ins e0 e1 e2 t =>
    intro b hb
    rcases List.mem_cons.mp hb with rfl | hb
    · rw [e1]; exact fun z => by cases z
    · rcases List.mem_cons.mp hb with rfl | hb
      · rw [e2]; exact fun z => by cases z
      · exact t.there b hb
theorem Vars.mono (hF : Sub F F') (hi : Pfx io io') : ∀ {r : Env} {s : L2.St} {A : List Addr}, Vars pw F io H r s A → Keep A H H' → Vars pw F' io' H' r s A
  | _, _, _, .nil, _ => .nil
  | _, _, _, .skip t, k => .skip (Vars.mono hF hi t k)
  | _, _, _, .cons c t, k => .cons (c.mono hF hi fun b hb => k b (List.mem_append_left _ hb)) (Vars.mono hF hi t fun b hb => k b (List.mem_append_right _ hb))
theorem Stos.mono (hF : Sub F F') (hi : Pfx io io') : ∀ {m : Sto} {l : List Addr} {A : List Addr}, Stos pw F io H m l A → Keep A H H' → Stos pw F' io' H' m l A
  | _, _, _, .nil, _ => .nil
  | _, _, _, .cons c t, k => .cons (c.mono hF hi fun b hb => k b (List.mem_append_left _ hb)) (Stos.mono hF hi t fun b hb => k b (List.mem_append_right _ hb))
theorem Vars.there : ∀ {r : Env} {s : L2.St} {A : List Addr}, Vars pw F io H r s A → ∀ b ∈ A, H b ≠ none
  | _, _, _, .nil => fun b hb => by cases hb
  | _, _, _, .skip t => Vars.there t
  | _, _, _, .cons c t => fun b hb => (List.mem_append.mp hb).elim (c.there b) (Vars.there t b)
theorem Stos.there : ∀ {m : Sto} {l : List Addr} {A : List Addr}, Stos pw F io H m l A → ∀ b ∈ A, H b ≠ none
  | _, _, _, .nil => fun b hb => by cases hb
  | _, _, _, .cons c t => fun b hb => (List.mem_append.mp hb).elim (c.there b) (Stos.there t b)
theorem Vars.length : ∀ {r : Env} {s : L2.St} {A : List Addr}, Vars pw F io H r s A → r.length = s.length
  | _, _, _, .nil => rfl
  | _, _, _, .skip t => congrArg (· + 1) (Vars.length t)
  | _, _, _, .cons _ t => congrArg (· + 1) (Vars.length t)
/-- the i-th slot apart from the others -/
theorem Vars.at : ∀ {r : Env} {s : L2.St} {A : List Addr} {i : Nat}, Vars pw F io H r s A → i < r.length → ∃ A0 A', A.Perm (A0 ++ A') ∧
    (∀ c, r[i]? = some (some c) → ∃ v, s[i]? = some (some v) ∧ CellR pw F io H c v A0) ∧
    (∀ {F' io' H'} (_ : Sub F F') (_ : Pfx io io') (_ : Keep A' H H') {c' v' A1}, CellR pw F' io' H' c' v' A1 → ∃ A2, A2.Perm (A1 ++ A') ∧ Vars pw F' io' H' (r.set i (some c')) (s.set i (some v')) A2) ∧
    (∃ A2, A2.Perm A' ∧ ∀ o, Vars pw F io H (r.set i none) (s.set i o) A2)
  | _, _, _, i, .nil, h => absurd h (Nat.not_lt_zero _)
  | _, _, _, 0, .skip t, h => by
    refine ⟨[], _, List.Perm.refl _, fun c e => ?_, fun hF hi k => fun hc => ⟨_, List.Perm.refl _, .cons hc (t.mono hF hi k)⟩, _, List.Perm.refl _, fun o => .skip t⟩
    simp at e
  | _, _, _, 0, .cons c t, h => by
    refine ⟨_, _, List.Perm.refl _, fun c' e => ?_, fun hF hi k => fun hc => ⟨_, List.Perm.refl _, .cons hc (t.mono hF hi k)⟩, _, List.Perm.refl _, fun o => .skip t⟩
    simp at e
    subst e
    exact ⟨_, rfl, c⟩
  | _, _, _, i + 1, .skip t, h => by
    obtain ⟨A0, A', p, g, w, A2, p2, n⟩ := Vars.at (i := i) t (Nat.lt_of_succ_lt_succ h)
    refine ⟨A0, A', p, fun c e => ?_, fun hF hi k => fun hc => ?_, A2, p2, fun o => .skip (n o)⟩
    · exact g c (by simpa using e)
    · obtain ⟨A3, p3, w3⟩ := w hF hi k hc
      exact ⟨A3, p3, .skip w3⟩
  | _, _, _, i + 1, .cons (A0 := B0) (A := B) c t, h => by
    obtain ⟨A0, A', p, g, w, A2, p2, n⟩ := Vars.at (i := i) t (Nat.lt_of_succ_lt_succ h)
    refine ⟨A0, B0 ++ A', ?_, fun c e => ?_, fun hF hi k => fun hc => ?_, B0 ++ A2, List.Perm.append_left _ p2, fun o => .cons c (n o)⟩
    · refine (List.Perm.append_left B0 p).trans ?_
      rw [← List.append_assoc, ← List.append_assoc]
      exact List.Perm.append_right _ List.perm_append_comm
    · exact g c (by simpa using e)
    · obtain ⟨A3, p3, w3⟩ := w hF hi (fun b hb => k b (List.mem_append_right _ hb)) hc
      refine ⟨B0 ++ A3, ?_, .cons (c.mono hF hi fun b hb => k b (List.mem_append_left _ hb)) w3⟩
      refine (List.Perm.append_left B0 p3).trans ?_
      rw [← List.append_assoc, ← List.append_assoc]
      exact List.Perm.append_right _ List.perm_append_comm
/-- the n-th object apart from the others -/
theorem Stos.at : ∀ {m : Sto} {l A : List Addr} {n : Nat} {o : MObj}, Stos pw F io H m l A → m[n]? = some o → ∃ a A0 A', l[n]? = some a ∧ A.Perm (A0 ++ A') ∧ ObjR pw F io H o a A0 ∧
    ∀ {F' io' H'} (_ : Sub F F') (_ : Pfx io io') (_ : Keep A' H H') {o' A1}, ObjR pw F' io' H' o' a A1 → ∃ A2, A2.Perm (A1 ++ A') ∧ Stos pw F' io' H' (m.set n o') l A2
  | _, _, _, n, _, .nil, h => by simp at h
  | _, _, _, 0, _, .cons c t, h => by
    simp at h
    subst h
    exact ⟨_, _, _, rfl, List.Perm.refl _, c, fun hF hi k => fun hc => ⟨_, List.Perm.refl _, .cons hc (t.mono hF hi k)⟩⟩
  | _, _, _, n + 1, o, .cons (A0 := B0) (A := B) c t, h => by
    obtain ⟨a, A0, A', e, p, g, w⟩ := Stos.at (n := n) (o := o) t (by simpa using h)
    refine ⟨a, A0, B0 ++ A', by simpa using e, ?_, g, fun hF hi k => fun hc => ?_⟩
    · refine (List.Perm.append_left B0 p).trans ?_
      rw [← List.append_assoc, ← List.append_assoc]
      exact List.Perm.append_right _ List.perm_append_comm
    · obtain ⟨A3, p3, w3⟩ := w hF hi (fun b hb => k b (List.mem_append_right _ hb)) hc
      refine ⟨B0 ++ A3, ?_, .cons (c.mono hF hi fun b hb => k b (List.mem_append_left _ hb)) w3⟩
      refine (List.Perm.append_left B0 p3).trans ?_
      rw [← List.append_assoc, ← List.append_assoc]
      exact List.Perm.append_right _ List.perm_append_comm
end

/-- the ghost of a state: what stands, the objects' places, the places that are the slots' own, the objects' own -/
structure Sx (pw : PWd) where
  F : Hp
  io : List Addr
  A1 : List Addr
  A2 : List Addr
abbrev Sx.wF (x : Sx pw) (G : Hp) : Sx pw := ⟨G, x.io, x.A1, x.A2⟩
abbrev Sx.w1 (x : Sx pw) (A : List Addr) : Sx pw := ⟨x.F, x.io, A, x.A2⟩
abbrev Sx.w2 (x : Sx pw) (A : List Addr) : Sx pw := ⟨x.F, x.io, x.A1, A⟩
abbrev Sx.wF1 (x : Sx pw) (G : Hp) (A : List Addr) : Sx pw := ⟨G, x.io, A, x.A2⟩
structure Rel (x : Sx pw) (r : Env) (m : Sto) (s : L2.St) (H : Hp) : Prop where
  sub : Sub x.F H
  vars : Vars pw x.F x.io H r s x.A1
  sto : Stos pw x.F x.io H m x.io x.A2
  nd : (x.A1 ++ x.A2).Nodup
  nF : ∀ a ∈ x.A1 ++ x.A2, x.F a = none
/-- from one state to a later one: what is at M may have changed -/
structure Stp (M : List Addr) (x : Sx pw) (H : Hp) (y : Sx pw) (H' : Hp) : Prop where
  F : Sub x.F y.F
  io : Pfx x.io y.io
  keep : ∀ b o, H b = some o → b ∉ M → H' b = some o
  there : ∀ b, H' b = none → H b = none
  newF : ∀ b, x.F b = none → y.F b ≠ none → H b = none ∨ b ∈ M
  newA : ∀ b ∈ y.A2, b ∈ x.A2 ∨ H b = none
/-- the same for an expression: the slots' own places stay -/
structure StE (x : Sx pw) (H : Hp) (y : Sx pw) (H' : Hp) : Prop where
  st : Stp x.A2 x H y H'
  a1 : y.A1 = x.A1
/-- for a statement -/
structure StS (x : Sx pw) (H : Hp) (y : Sx pw) (H' : Hp) : Prop where
  st : Stp (x.A1 ++ x.A2) x H y H'
  a1 : ∀ b ∈ y.A1, b ∈ x.A1 ∨ b ∈ x.A2 ∨ H b = none
section
variable {x y z : Sx pw} {H H1 H2 : Hp}
theorem Stp.refl {M : List Addr} : Stp M x H x H := ⟨.refl _, .refl _, fun _ _ h _ => h, fun _ h => h, fun b h1 h2 => absurd h1 h2, fun b h => .inl h⟩
theorem StE.refl : StE x H x H := ⟨.refl, rfl⟩
theorem StS.refl : StS x H x H := ⟨.refl, fun b h => .inl h⟩
theorem StE.trans (a : StE x H y H1) (b : StE y H1 z H2) : StE x H z H2 := by
  refine ⟨⟨a.st.F.trans b.st.F, a.st.io.trans b.st.io, fun c o h n => b.st.keep c o (a.st.keep c o h n) fun q => ?_, fun c h => a.st.there c (b.st.there c h), fun c h1 h2 => ?_, fun c h => ?_⟩, b.a1.trans a.a1⟩
  · rcases a.st.newA c q with q | q
    · exact n q
    · rw [h] at q; cases q
  · cases q : y.F c with
    | none =>
      rcases b.st.newF c q h2 with w | w
      · exact .inl (a.st.there c w)
      · exact (a.st.newA c w).elim .inr .inl
    | some o => exact a.st.newF c h1 (by rw [q]; exact fun z => by cases z)
  · rcases b.st.newA c h with q | q
    · exact a.st.newA c q
    · exact .inr (a.st.there c q)
theorem StE.toS (a : StE x H y H1) : StS x H y H1 := by
  refine ⟨⟨a.st.F, a.st.io, fun c o h n => a.st.keep c o h fun q => n (List.mem_append_right _ q), a.st.there, fun c h1 h2 => (a.st.newF c h1 h2).elim .inl fun q => .inr (List.mem_append_right _ q), a.st.newA⟩, fun c h => .inl (by rw [← a.a1]; exact h)⟩
theorem StS.trans (a : StS x H y H1) (b : StS y H1 z H2) : StS x H z H2 := by
  have old : ∀ c o, H c = some o → c ∈ y.A1 ++ y.A2 → c ∈ x.A1 ++ x.A2 := fun c o h q => by
    rcases List.mem_append.mp q with q | q
    · rcases a.a1 c q with w | w | w
      · exact List.mem_append_left _ w
      · exact List.mem_append_right _ w
      · rw [h] at w; cases w
    · rcases a.st.newA c q with w | w
      · exact List.mem_append_right _ w
      · rw [h] at w; cases w
  have old2 : ∀ c, c ∈ y.A1 ++ y.A2 → H c = none ∨ c ∈ x.A1 ++ x.A2 := fun c q => by
    cases h : H c with
    | none => exact .inl rfl
    | some o => exact .inr (old c o h q)
  refine ⟨⟨a.st.F.trans b.st.F, a.st.io.trans b.st.io, fun c o h n => b.st.keep c o (a.st.keep c o h n) fun q => n (old c o h q), fun c h => a.st.there c (b.st.there c h), fun c h1 h2 => ?_, fun c h => ?_⟩, fun c h => ?_⟩
  · cases q : y.F c with
    | none =>
      rcases b.st.newF c q h2 with w | w
      · exact .inl (a.st.there c w)
      · exact old2 c w
    | some o => exact a.st.newF c h1 (by rw [q]; exact fun z => by cases z)
  · rcases b.st.newA c h with q | q
    · exact a.st.newA c q
    · exact .inr (a.st.there c q)
  · rcases b.a1 c h with q | q | q
    · exact a.a1 c q
    · exact .inr (a.st.newA c q)
    · exact .inr (.inr (a.st.there c q))
end
end Dl
set_option autoImplicit true
/-! The data layer: judgements, what is read of a state, binding. -/
namespace Dl
open PySem PySem.Spec PyProof.Rows L2

/-- what a piece of syntax comes to: a value and the objects; a refusal; nothing that is told -/
inductive R (α : Type) where
  | ok (a : α) (m : Sto)
  | exc (c : Nat) (v : D) (m : Sto)
  | bad
def bindR {α β : Type} (r : R α) (f : α → Sto → R β) : R β := match r with
  | .ok a m => f a m
  | .exc c v m => .exc c v m
  | .bad => .bad
@[simp] theorem bindR_ok {α β : Type} (a : α) (m : Sto) (f : α → Sto → R β) : bindR (.ok a m) f = f a m := rfl
@[simp] theorem bindR_exc {α β : Type} (c : Nat) (v : D) (m : Sto) (f : α → Sto → R β) : bindR (.exc c v m) f = .exc c v m := rfl
@[simp] theorem bindR_bad {α β : Type} (f : α → Sto → R β) : bindR (.bad : R α) f = .bad := rfl
def ofO {α : Type} (o : Option α) (m : Sto) : R α := match o with
  | some a => .ok a m
  | none => .bad
@[simp] theorem ofO_some {α : Type} (a : α) (m : Sto) : ofO (some a) m = .ok a m := rfl
@[simp] theorem ofO_none {α : Type} (m : Sto) : ofO (none : Option α) m = .bad := rfl
abbrev Sem1 (α : Type) := Env → Sto → R α
abbrev SE := Sem1 D
abbrev SB := Sem1 Bool
abbrev SL := Sem1 (List D)

/-- what a def or a block wishes of refusals: the classes' places, their fields' names, the wish -/
structure Wi where
  T : Nat → Addr
  fld : Nat → Str
  W : WX
/-- how a refusal of the kind c with the value v lies -/
def ExAt (w : Wi) (c : Nat) (v : D) (cls : Value) (d : Option Addr) (y : Sx pw) (H : Hp) : Prop :=
  cls = .ref (w.T c) ∧ ((v = .own [] [] ∧ d = none) ∨ ∃ a u, d = some a ∧ y.F a = some (.xd [(w.fld c, u)]) ∧ Rep y.F y.io v u)

abbrev PP (pw : PWd) (α β : Type) := Sx pw → Hp → α → β → Prop
/-- a value that stands -/
def PV {pw : PWd} : PP pw D V := fun x _ d v => Rep x.F x.io d v
/-- a value that is looked at: it may be a slot's own list -/
def Pk {pw : PWd} : PP pw D V := fun x H d v => Rep x.F x.io d v ∨ (∃ ds vs a, d = .lst ds ∧ v = .ref a ∧ a ∈ x.A1 ∧ H a = some (.lst vs) ∧ Reps x.F x.io ds vs) ∨ ∃ ks vs xs ep a, d = .own ks vs ∧ v = .ref a ∧ a ∈ x.A1 ∧ H a = some (dN pw a xs ep) ∧ DPairs x.F x.io ks vs xs
def PB {pw : PWd} : PP pw Bool Bool := fun _ _ a b => a = b
def PL {pw : PWd} : PP pw (List D) (List V) := fun x _ ds vs => Reps x.F x.io ds vs
inductive Pks (x : Sx pw) (H : Hp) : List D → List V → Prop
  | nil : Pks x H [] []
  | cons {d : D} {v : V} {ds : List D} {vs : List V} : Pk x H d v → Pks x H ds vs → Pks x H (d :: ds) (v :: vs)
def Fin {α β : Type} (P : PP pw α β) (w : Wi) (x : Sx pw) (r : Env) (s : L2.St) (H : Hp) (Q : β → Hp → Prop) : R α → Prop
  | .ok a m => ∀ b y H', Rel y r m s H' → P y H' a b → StE x H y H' → Q b H'
  | .exc c v m => ∀ cls d y H', Rel y r m s H' → ExAt w c v cls d y H' → StE x H y H' → w.W cls d s H'
  | .bad => False
def rd {α β : Type} (P : PP pw α β) (w : Wi) (f : Sem1 α) (s : L2.St) (H : Hp) (Q : β → Hp → Prop) : Prop := ∃ x r m, Rel x r m s H ∧ Fin P w x r s H Q (f r m)

section
variable {x y : Sx pw} {r : Env} {m : Sto} {s : L2.St} {H H' : Hp} {w : Wi}
theorem Pk.stay {d : D} {v : V} (h : Pk x H d v) (R : Rel x r m s H) (st : StE x H y H') : Pk y H' d v := by
  rcases h with h | ⟨ds, vs, a, e1, e2, ha, e, q⟩ | ⟨ks, vs, xs, ep, a, e1, e2, ha, e, q⟩
  · exact .inl (h.mono st.st.F st.st.io)
  · refine .inr (.inl ⟨ds, vs, a, e1, e2, by rw [st.a1]; exact ha, st.st.keep a _ e fun z => ?_, q.mono st.st.F st.st.io⟩)
    exact (List.nodup_append.mp R.nd).2.2 a ha a z rfl
  · refine .inr (.inr ⟨ks, vs, xs, ep, a, e1, e2, by rw [st.a1]; exact ha, st.st.keep a _ e fun z => ?_, q.mono st.st.F st.st.io⟩)
    exact (List.nodup_append.mp R.nd).2.2 a ha a z rfl
theorem Pks.stay {ds : List D} {vs : List V} (h : Pks x H ds vs) (R : Rel x r m s H) (st : StE x H y H') : Pks y H' ds vs := by
  induction h with
  | nil => exact .nil
  | cons a _ ih => exact .cons (a.stay R st) ih
theorem Pk.of {d : D} {v : V} (h : Rep x.F x.io d v) : Pk x H d v := .inl h
theorem Pks.of : ∀ {ds : List D} {vs : List V}, Reps x.F x.io ds vs → Pks x H ds vs
  | _, _, .nil => .nil
  | _, _, .cons a t => .cons (.inl a) (Pks.of t)
/-- a list that is looked at -/
theorem Pk.lst {ds : List D} {v : V} (h : Pk x H (.lst ds) v) (R : Rel x r m s H) : ∃ a vs, v = .ref a ∧ H a = some (.lst vs) ∧ Reps x.F x.io ds vs := by
  rcases h with h | ⟨ds', vs, a, e1, e2, ha, e, q⟩ | ⟨ks, vs, xs, ep, a, e1, e2, ha, e, q⟩
  · cases h with
    | lst e q => exact ⟨_, _, rfl, R.sub _ _ e, q⟩
  · cases e1
    exact ⟨a, vs, e2, e, q⟩
  · cases e1
theorem Pk.tup {ds : List D} {v : V} (h : Pk x H (.tup ds) v) (R : Rel x r m s H) : ∃ a vs, v = .ref a ∧ x.F a = some (.tup vs) ∧ H a = some (.tup vs) ∧ Reps x.F x.io ds vs := by
  rcases h with h | ⟨ds', vs, a, e1, e2, ha, e, q⟩ | ⟨ks, vs, xs, ep, a, e1, e2, ha, e, q⟩
  · cases h with
    | tup e q => exact ⟨_, _, rfl, e, R.sub _ _ e, q⟩
  · cases e1
  · cases e1
theorem Pk.int {i : Int} {v : V} (h : Pk x H (.int i) v) : v = .int i := by
  rcases h with h | ⟨ds', vs, a, e1, e2, ha, e, q⟩ | ⟨ks, vs, xs, ep, a, e1, e2, ha, e, q⟩
  · cases h; rfl
  · cases e1
  · cases e1
theorem Pk.bl {i : Bool} {v : V} (h : Pk x H (.bl i) v) : v = .bl i := by
  rcases h with h | ⟨ds', vs, a, e1, e2, ha, e, q⟩ | ⟨ks, vs, xs, ep, a, e1, e2, ha, e, q⟩
  · cases h; rfl
  · cases e1
  · cases e1
theorem Pk.non {v : V} (h : Pk x H .non v) : v = .non := by
  rcases h with h | ⟨ds', vs, a, e1, e2, ha, e, q⟩ | ⟨ks, vs, xs, ep, a, e1, e2, ha, e, q⟩
  · cases h; rfl
  · cases e1
  · cases e1
theorem Pk.str {z : List Nat} {v : V} (h : Pk x H (.str z) v) : v = .str ⟨z.toArray⟩ := by
  rcases h with h | ⟨ds', vs, a, e1, e2, ha, e, q⟩ | ⟨ks, vs, xs, ep, a, e1, e2, ha, e, q⟩
  · cases h; rfl
  · cases e1
  · cases e1
theorem Pk.own {ks vs : List D} {v : V} (h : Pk x H (.own ks vs) v) : ∃ a ep xs, v = .ref a ∧ a ∈ x.A1 ∧ H a = some (dN pw a xs ep) ∧ DPairs x.F x.io ks vs xs := by
  rcases h with h | ⟨ds', vs, a, e1, e2, ha, e, q⟩ | ⟨ks, vs, xs, ep, a, e1, e2, ha, e, q⟩
  · cases h
  · cases e1
  · cases e1
    exact ⟨a, ep, xs, e2, ha, e, q⟩
theorem Pk.obj {n : Nat} {v : V} (h : Pk x H (.obj n) v) : ∃ a, v = .ref a ∧ x.io[n]? = some a := by
  rcases h with h | ⟨ds', vs, a, e1, e2, ha, e, q⟩ | ⟨ks, vs, xs, ep, a, e1, e2, ha, e, q⟩
  · cases h with
    | obj e => exact ⟨_, rfl, e⟩
  · cases e1
  · cases e1

theorem Rel.there (R : Rel x r m s H) : ∀ b ∈ x.A1 ++ x.A2, H b ≠ none := fun b hb => (List.mem_append.mp hb).elim (R.vars.there b) (R.sto.there b)
/-- a new thing that will stand as it is -/
theorem Rel.new {p : Addr} {o : HO} (R : Rel x r m s H) (hp : H p = none) : Rel (x.wF (upd x.F p o)) r m s (upd H p o) := by
  have hpF : x.F p = none := by
    cases e : x.F p with
    | none => rfl
    | some q => rw [R.sub _ _ e] at hp; cases hp
  have hs : Sub x.F (upd x.F p o) := fun b q e => by rw [upd_ne (ne_of_none e hpF)]; exact e
  have k : ∀ A : List Addr, Keep A H (upd H p o) := fun A b _ q e => by rw [upd_ne (ne_of_none e hp)]; exact e
  refine ⟨fun b q e => ?_, R.vars.mono hs (.refl _) (k _), R.sto.mono hs (.refl _) (k _), R.nd, fun b hb => ?_⟩
  · by_cases hb : b = p
    · subst hb
      have e : upd x.F b o b = some q := e
      rw [upd_same] at e
      rw [upd_same, e]
    · have e : upd x.F p o b = some q := e
      rw [upd_ne hb] at e
      rw [upd_ne hb]
      exact R.sub _ _ e
  · have hbp : b ≠ p := fun z => R.there b hb (by rw [z]; exact hp)
    show upd x.F p o b = none
    rw [upd_ne hbp]
    exact R.nF b hb
theorem StE.new {p : Addr} {o : HO} (R : Rel x r m s H) (hp : H p = none) : StE x H (x.wF (upd x.F p o)) (upd H p o) := by
  have hpF : x.F p = none := by
    cases e : x.F p with
    | none => rfl
    | some q => rw [R.sub _ _ e] at hp; cases hp
  refine ⟨⟨fun b q e => ?_, .refl _, fun b q e _ => ?_, fun b e => ?_, fun b h1 h2 => ?_, fun b h => .inl h⟩, rfl⟩
  · show upd x.F p o b = some q
    rw [upd_ne (ne_of_none e hpF)]
    exact e
  · rw [upd_ne (ne_of_none e hp)]
    exact e
  · by_cases hb : b = p
    · subst hb; exact hp
    · rw [upd_ne hb] at e
      exact e
  · by_cases hb : b = p
    · subst hb; exact .inl hp
    · have h2 : upd x.F p o b ≠ none := h2
      rw [upd_ne hb] at h2
      exact absurd h1 h2

variable {α β γ δ : Type}
theorem Fin.shift {P : PP pw α β} {Q : β → Hp → Prop} {a : R α} (st : StE x H y H') (h : Fin P w x r s H Q a) : Fin P w y r s H' Q a := by
  cases a with
  | ok a m => exact fun b z H2 R p t => h b z H2 R p (st.trans t)
  | exc c v m => exact fun cls d z H2 R p t => h cls d z H2 R p (st.trans t)
  | bad => exact h
theorem Fin.imp {P P' : PP pw α β} {Q Q' : β → Hp → Prop} {a : R α} (h : Fin P w x r s H Q a) (hp : ∀ y H a b, P' y H a b → P y H a b) (hq : ∀ b H, Q b H → Q' b H) : Fin P' w x r s H Q' a := by
  cases a with
  | ok a m => exact fun b z H2 R p t => hq _ _ (h b z H2 R (hp _ _ _ _ p) t)
  | exc c v m => exact fun cls d z H2 R p t => h cls d z H2 R p t
  | bad => exact h
theorem Fin.ite {P : PP pw α β} {Q : β → Hp → Prop} {a : R α} {c : Prop} [Decidable c] (h : Fin P w x r s H Q (if c then a else .bad)) : c ∧ Fin P w x r s H Q a := by
  by_cases hc : c
  · rw [if_pos hc] at h
    exact ⟨hc, h⟩
  · rw [if_neg hc] at h
    exact h.elim
/-- one part, then what comes of it -/
theorem rd_bind {P : PP pw α β} {P' : PP pw γ δ} {f : Sem1 α} {g : α → Sto → R γ} {Q : δ → Hp → Prop} {K : β → Hp → Prop} (R : Rel x r m s H) (h : Fin P' w x r s H Q (bindR (f r m) g))
    (k : ∀ a m' b y H', Rel y r m' s H' → P y H' a b → StE x H y H' → Fin P' w y r s H' Q (g a m') → K b H') : rd P w f s H K := by
  refine ⟨x, r, m, R, ?_⟩
  cases e : f r m with
  | ok a m' =>
    rw [e] at h
    exact fun b y H' R' p st => k a m' b y H' R' p st (Fin.shift st h)
  | exc c v m' =>
    rw [e] at h
    exact h
  | bad =>
    rw [e] at h
    exact h
/-- the end: a value that is there already -/
theorem Fin.here {P : PP pw α β} {Q : β → Hp → Prop} {a : α} {b : β} (R : Rel x r m s H) (h : Fin P w x r s H Q (.ok a m)) (p : P x H a b) : Q b H := h b x H R p .refl
/-- the end: a new thing that will stand -/
theorem Fin.fresh {P : PP pw α V} {Q : VK} {a : α} {o : HO} (R : Rel x r m s H) (h : Fin P w x r s H Q (.ok a m)) (p : ∀ p, H p = none → P (x.wF (upd x.F p o)) (upd H p o) a (.ref p)) : ∀ p, H p = none → Q (.ref p) (upd H p o) :=
  fun q hq => h _ _ _ (R.new hq) (p q hq) (.new R hq)
theorem Reps.up {ds : List D} {vs : List V} {p : Addr} {o : HO} (R : Rel x r m s H) (hp : H p = none) (h : Reps x.F x.io ds vs) : Reps (upd x.F p o) x.io ds vs :=
  h.mono (StE.new (o := o) R hp).st.F (.refl _)
theorem Fin.list {Q : VK} {ds : List D} {vs : List V} (R : Rel x r m s H) (h : Fin PV w x r s H Q (.ok (.lst ds) m)) (q : Reps x.F x.io ds vs) : ∀ p, H p = none → Q (.ref p) (upd H p (.lst vs)) :=
  Fin.fresh R h fun p hp => .lst upd_same (q.up R hp)
theorem Fin.tuple {Q : VK} {ds : List D} {vs : List V} (R : Rel x r m s H) (h : Fin PV w x r s H Q (.ok (.tup ds) m)) (q : Reps x.F x.io ds vs) : ∀ p, H p = none → Q (.ref p) (upd H p (.tup vs)) :=
  Fin.fresh R h fun p hp => .tup upd_same (q.up R hp)
end

/-! ### weaker readings -/
theorem PE.imp {X : Cx} {e : Expr} {t t' : TE} (h : PE X e t) (k : ∀ s H Q, t' s H Q → t s H Q) : PE X e t' := ⟨fun pins s σ H Q I q => h.run pins s σ H Q I (k _ _ _ q)⟩
theorem PT.imp {X : Cx} {e : Expr} {t t' : TT} (h : PT X e t) (k : ∀ s H Q, t' s H Q → t s H Q) : PT X e t' := ⟨fun pins s σ H Q I q => h.run pins s σ H Q I (k _ _ _ q)⟩
theorem PW.imp {X : Cx} {e : Expr} {t t' : TT} (h : PW X e t) (k : ∀ s H Q, t' s H Q → t s H Q) : PW X e t' := ⟨fun wh pins s σ H Q I q => h.run wh pins s σ H Q I (k _ _ _ q)⟩
theorem PA.imp {X : Cx} {e : List Expr} {t t' : TA} (h : PA X e t) (k : ∀ s H Q, t' s H Q → t s H Q) : PA X e t' := ⟨fun pos pins s σ H Q I q => h.run pos pins s σ H Q I (k _ _ _ q)⟩
theorem PS.imp {X : Cx} {e : Stmt} {t t' : TS} (h : PS X e t) (k : ∀ D s H, t' D s H → t D s H) : PS X e t' := ⟨fun pins s σ H D I q => h.run pins s σ H D I (k _ _ _ q)⟩
theorem PSs.imp {X : Cx} {e : List Stmt} {t t' : TS} (h : PSs X e t) (k : ∀ D s H, t' D s H → t D s H) : PSs X e t' := ⟨fun pins s σ H D I q => h.run pins s σ H D I (k _ _ _ q)⟩
theorem PG.imp {X : Cx} {e : Expr} {t t' : TG} (h : PG X e t) (k : ∀ v s H Q, t' v s H Q → t v s H Q) : PG X e t' := ⟨fun pins s σ H v u Q I r q => h.run pins s σ H v u Q I r (k _ _ _ _ q)⟩
theorem PI.imp {X : Cx} {g e : Expr} {t t' : TI} (h : PI X g e t) (k : ∀ s H R, t' s H R → t s H R) : PI X g e t' := ⟨fun pins s σ H R I q => h.run pins s σ H R I (k _ _ _ q)⟩

/-- an expression that gives a value | that is looked at | a test | arguments -/
abbrev DE (X : Cx) (w : Wi) (e : Expr) (f : SE) : Prop := PE X e (rd (PV (pw := pwOf X)) w f)
abbrev DK (X : Cx) (w : Wi) (e : Expr) (f : SE) : Prop := PE X e (rd (Pk (pw := pwOf X)) w f)
abbrev DT (X : Cx) (w : Wi) (e : Expr) (f : SB) : Prop := PT X e (rd (PB (pw := pwOf X)) w f)
abbrev DW (X : Cx) (w : Wi) (e : Expr) (f : SB) : Prop := L2.PW X e (rd (PB (pw := pwOf X)) w f)
abbrev DA (X : Cx) (w : Wi) (es : List Expr) (f : SL) : Prop := PA X es (rd (PL (pw := pwOf X)) w f)
abbrev DAk (X : Cx) (w : Wi) (es : List Expr) (f : SL) : Prop := PA X es (rd (pw := pwOf X) (fun x H ds vs => Pks x H ds vs) w f)
section
variable {X : Cx} {w : Wi} {e : Expr} {es : List Expr} {f : SE} {fl : SL}
theorem DE.k (h : DE X w e f) : DK X w e f := PE.imp h fun s H Q ⟨x, r, m, R, q⟩ => ⟨x, r, m, R, Fin.imp q (fun _ _ _ _ p => .inl p) fun _ _ z => z⟩
theorem DA.k (h : DA X w es fl) : DAk X w es fl := PA.imp h fun s H Q ⟨x, r, m, R, q⟩ => ⟨x, r, m, R, Fin.imp q (fun _ _ _ _ p => Pks.of p) fun _ _ z => z⟩
end
end Dl
set_option autoImplicit true
/-! The data layer: names, constants, operators, comparisons, tests, displays, subscripts. -/
namespace Dl
open PySem PySem.Spec PyProof.Rows L2 TL

/-! ### names, constants -/
def sVar (i : Nat) : SE := fun r m => match r[i]? with
  | some (some (.val d)) => .ok d m
  | _ => .bad
def sPk (i : Nat) : SE := fun r m => match r[i]? with
  | some (some (.val d)) => .ok d m
  | some (some (.lst l)) => .ok (.lst l) m
  | some (some (.dct ks vs)) => .ok (.own ks vs) m
  | _ => .bad
def sC (d : D) : SE := fun _ m => .ok d m
section
variable {X : Cx} {w : Wi} {e a b c : Expr} {pos : Pos}
theorem slot_at {x : Sx pw} {r : Env} {m : Sto} {s : L2.St} {H : Hp} (R : Rel x r m s H) {i : Nat} {c : Cell} (h : r[i]? = some (some c)) : ∃ v A0, s[i]? = some (some v) ∧ CellR pw x.F x.io H c v A0 ∧ ∀ b ∈ A0, b ∈ x.A1 := by
  have hi : i < r.length := (List.getElem?_eq_some_iff.mp h).1
  obtain ⟨A0, A', p, g, _, _⟩ := R.vars.at hi
  obtain ⟨v, e, q⟩ := g c h
  exact ⟨v, A0, e, q, fun b hb => p.mem_iff.mpr (List.mem_append_left _ hb)⟩
theorem de_var {i : Nat} (h : PE X e (tVar i)) : DE X w e (sVar i) := PE.imp h fun s H Q ⟨x, r, m, R, q⟩ => by
  unfold sVar at q
  split at q
  · rename_i d hd
    obtain ⟨v, A0, e1, q1, _⟩ := slot_at R hd
    cases q1 with
    | val rp => exact ⟨v, e1, q v x H R rp .refl⟩
  · exact q.elim
theorem dk_var {i : Nat} (h : PE X e (tVar i)) : DK X w e (sPk i) := PE.imp h fun s H Q ⟨x, r, m, R, q⟩ => by
  unfold sPk at q
  split at q
  · rename_i d hd
    obtain ⟨v, A0, e1, q1, _⟩ := slot_at R hd
    cases q1 with
    | val rp => exact ⟨v, e1, q v x H R (.inl rp) .refl⟩
  · rename_i l hd
    obtain ⟨v, A0, e1, q1, hA⟩ := slot_at R hd
    cases q1 with
    | @lst a ds vs ha rp => exact ⟨_, e1, q (.ref a) x H R (.inr (.inl ⟨_, vs, a, rfl, rfl, hA a (by simp), ha, rp⟩)) .refl⟩
  · rename_i ks vs hd
    obtain ⟨v, A0, e1, q1, hA⟩ := slot_at R hd
    cases q1 with
    | @dct a ep ks vs xs ha rp => exact ⟨_, e1, q (.ref a) x H R (.inr (.inr ⟨_, _, xs, ep, a, rfl, rfl, hA a (by simp), ha, rp⟩)) .refl⟩
  · exact q.elim
theorem de_c {d : D} {v : V} (h : PE X e (tC v)) (hr : ∀ F io, Rep F io d v) : DE X w e (sC d) := PE.imp h fun s H Q ⟨x, r, m, R, q⟩ => q v x H R (hr _ _) .refl
theorem de_int {i : Int} {j : Nat} : DE X w (.Constant (.int i) j pos) (sC (.int i)) := de_c pe_int fun _ _ => .int i
theorem de_bl {b : Bool} {j : Nat} : DE X w (.Constant (.bool b) j pos) (sC (.bl b)) := de_c pe_bl fun _ _ => .bl b
theorem de_non {j : Nat} : DE X w (.Constant .none j pos) (sC .non) := de_c pe_non fun _ _ => .non
theorem de_str (l : List Nat) {x : Str} {j : Nat} (h : x = ⟨l.toArray⟩ := by decide +kernel) : DE X w (.Constant (.str x) j pos) (sC (.str l)) := de_c pe_str fun _ _ => by
  rw [h]
  exact .str l
/-- a module's text or number -/
theorem de_gstr (l : List Nat) {x y : Str} {t : Tok} (hg : Gl X x) (hm : X.mg x = some (.str y t)) (h : y = ⟨l.toArray⟩ := by decide +kernel) (hd : (x == ("__debug__" : Str)) = false := by decide) : DE X w (.Name x pos) (sC (.str l)) :=
  de_c (v := .str y) (pe_glob hg hm ⟨t, rfl⟩ hd) fun _ _ => by
    rw [h]
    exact .str l
theorem de_gint {i : Int} {x : Str} {t : Tok} (hg : Gl X x) (hm : X.mg x = some (.int i t)) (hd : (x == ("__debug__" : Str)) = false := by decide) : DE X w (.Name x pos) (sC (.int i)) := de_c (v := .int i) (pe_glob hg hm ⟨t, rfl⟩ hd) fun _ _ => .int i

/-! ### operators of two values -/
def OpD (pw : PWd) (w : Wi) (f : D → D → Sto → R D) (r : R2) : Prop := ∀ (x : Sx pw) (e : Env) (m : Sto) (s : L2.St) (H : Hp) (Q : VK) (da db : D) (va vb : V), Rel x e m s H → Pk x H da va → Pk x H db vb → Fin PV w x e s H Q (f da db m) → r va vb H Q
def sBin (f : D → D → Sto → R D) (a b : SE) : SE := fun r m => bindR (a r m) fun x m1 => bindR (b r m1) fun y m2 => f x y m2
theorem rd_bin {f : D → D → Sto → R D} {fa fb : SE} {r : R2} (h : OpD pw w f r) (s : L2.St) (H : Hp) (Q : VK) (q : rd (PV (pw := pw)) w (sBin f fa fb) s H Q) : tOp r (rd (Pk (pw := pw)) w fa) (rd (Pk (pw := pw)) w fb) s H Q := by
  obtain ⟨x, e, m, R, q⟩ := q
  refine rd_bind R q fun da m1 va y H1 R1 p1 st1 q1 => ?_
  refine rd_bind R1 q1 fun db m2 vb z H2 R2 p2 st2 q2 => ?_
  exact h z e m2 s H2 Q da db va vb R2 (p1.stay R1 st2) p2 q2
theorem de_bin {op : Operator} {f : D → D → Sto → R D} {r : R2} {fa fb : SE} (ho : OpR X (binaryOp op) r) (h : OpD (pwOf X) w f r) (ha : DK X w a fa) (hb : DK X w b fb) : DE X w (.BinOp a op b pos) (sBin f fa fb) :=
  PE.imp (pe_op ho ha hb) fun s H Q q => rd_bin h s H Q q
def LIM : Nat := 16777216
theorem lim_eq : LIM = sizeLine := sizeLine_eq.symm
def opAdd : D → D → Sto → R D
  | .int i, .int j, m => .ok (.int (i + j)) m
  | .str x, .str y, m => if x.length + y.length ≤ LIM then .ok (.str (x ++ y)) m else .bad
  | .lst x, .lst y, m => if x.length + y.length ≤ LIM then .ok (.lst (x ++ y)) m else .bad
  | .tup x, .tup y, m => if x.length + y.length ≤ LIM then .ok (.tup (x ++ y)) m else .bad
  | _, _, _ => .bad
theorem str_app (x y : List Nat) : (⟨x.toArray⟩ : Str) ++ (⟨y.toArray⟩ : Str) = ⟨(x ++ y).toArray⟩ := by
  have h : tl ((⟨x.toArray⟩ : Str) ++ (⟨y.toArray⟩ : Str)) = x ++ y := by rw [tl_append]
  exact ext_tl h
theorem str_len (x : List Nat) : (⟨x.toArray⟩ : Str).length = x.length := by simp [Str.length]
def rAddA (K : PySem.W.Frag) : R2 := fun x y H Q => (∃ i j, x = .int i ∧ y = .int j ∧ Q (.int (i + j)) H) ∨ (∃ i j, x = .str i ∧ y = .str j ∧ i.length + j.length ≤ sizeLine ∧ Q (.str (i ++ j)) H) ∨ rCat x y H Q ∨ rCatA K x y H Q
theorem op_addA : OpR X (binaryOp .Add) (rAddA X.K) := OpR.or op_add (OpR.or op_add_str (OpR.or op_cat op_catA))
theorem od_add (K : PySem.W.Frag) : OpD pw w opAdd (rAddA K) := by
  intro x e m s H Q da db va vb R pa pb h
  cases da <;> cases db <;> first
    | exact h.elim
    | skip
  · have ea := pa.int; have eb := pb.int
    subst ea eb
    exact .inl ⟨_, _, rfl, rfl, Fin.here R h (.int _)⟩
  · have ea := pa.str; have eb := pb.str
    subst ea eb
    obtain ⟨hz, h⟩ := Fin.ite h
    refine .inr (.inl ⟨_, _, rfl, rfl, ?_, ?_⟩)
    · rw [str_len, str_len, ← lim_eq]; exact hz
    · rw [str_app]
      exact Fin.here R h (.str _)
  · obtain ⟨a, vs, rfl, haF, ha, q⟩ := pa.tup R
    obtain ⟨b, us, rfl, hbF, hb, q'⟩ := pb.tup R
    obtain ⟨hz, h⟩ := Fin.ite h
    refine .inr (.inr (.inr ⟨a, b, vs, us, rfl, rfl, SqT.of ha, SqT.of hb, ?_, fun e => ?_, fun _ e => ?_, fun _ _ => ?_⟩))
    · rw [← q.length, ← q'.length, ← lim_eq]; exact hz
    · subst e
      cases q
      exact Fin.here R h (.tup hbF (by simpa using q'))
    · subst e
      cases q'
      exact Fin.here R h (.tup haF (by simpa using q))
    · exact Fin.tuple R h (q.append q')
  · obtain ⟨a, vs, rfl, ha, q⟩ := pa.lst R
    obtain ⟨b, us, rfl, hb, q'⟩ := pb.lst R
    obtain ⟨hz, h⟩ := Fin.ite h
    refine .inr (.inr (.inl ⟨a, b, vs, us, rfl, rfl, ha, hb, ?_, ?_⟩))
    · rw [← q.length, ← q'.length, ← lim_eq]; exact hz
    · exact Fin.list R h (q.append q')
theorem de_add {fa fb : SE} (ha : DK X w a fa) (hb : DK X w b fb) : DE X w (.BinOp a .Add b pos) (sBin opAdd fa fb) := de_bin op_addA (od_add _) ha hb

def opSub : D → D → Sto → R D
  | .int i, .int j, m => .ok (.int (i - j)) m
  | _, _, _ => .bad
theorem od_int {g : Int → Int → D} {f : D → D → Sto → R D} {r : Int → Int → Hp → VK → Prop} (hf : ∀ da db m, (∃ i j, da = .int i ∧ db = .int j) ∨ f da db m = .bad)
    (h : ∀ (x : Sx pw) (e : Env) (m : Sto) (s : L2.St) (H : Hp) (Q : VK) (i j : Int), Rel x e m s H → Fin PV w x e s H Q (f (.int i) (.int j) m) → r i j H Q) : OpD pw w f (fun x y H Q => ∃ i j, x = .int i ∧ y = .int j ∧ r i j H Q) := by
  intro x e m s H Q da db va vb R pa pb q
  rcases hf da db m with ⟨i, j, rfl, rfl⟩ | z
  · have ea := pa.int; have eb := pb.int
    subst ea eb
    exact ⟨i, j, rfl, rfl, h x e m s H Q i j R q⟩
  · rw [z] at q
    exact q.elim
theorem od_sub : OpD pw w opSub (rI0 fun i j => .int (i - j)) := od_int (g := fun _ _ => .non) (fun da db m => by cases da <;> cases db <;> first | exact .inr rfl | exact .inl ⟨_, _, rfl, rfl⟩) fun x e m s H Q i j R q => Fin.here R q (.int _)
theorem de_sub {fa fb : SE} (ha : DK X w a fa) (hb : DK X w b fb) : DE X w (.BinOp a .Sub b pos) (sBin opSub fa fb) := de_bin op_sub od_sub ha hb
def opMod : D → D → Sto → R D
  | .int i, .int j, m => if 0 < j then .ok (.int (i % j)) m else .bad
  | _, _, _ => .bad
theorem od_mod : OpD pw w opMod (rI (fun _ j => 0 < j) fun i j => .int (i % j)) := od_int (g := fun _ _ => .non) (fun da db m => by cases da <;> cases db <;> first | exact .inr rfl | exact .inl ⟨_, _, rfl, rfl⟩) fun x e m s H Q i j R q => by
  obtain ⟨hj, q⟩ := Fin.ite q
  exact ⟨hj, Fin.here R q (.int _)⟩
theorem de_mod {fa fb : SE} (ha : DK X w a fa) (hb : DK X w b fb) : DE X w (.BinOp a .Mod b pos) (sBin opMod fa fb) := de_bin op_mod od_mod ha hb
def opDiv : D → D → Sto → R D
  | .int i, .int j, m => if 0 < j ∧ j < 18446744073709551616 then .ok (.int (i / j)) m else .bad
  | _, _, _ => .bad
theorem divW {j : Int} (h : 0 < j ∧ j < 18446744073709551616) : CDivW 0 j := by
  refine ⟨h.1, ?_⟩
  have h2 : j.natAbs < 2 ^ 64 := by omega
  exact Nat.lt_trans (PySem.Flt.log2_lt_of (by decide) h2) (by decide)
theorem od_div : OpD pw w opDiv (rI CDivW fun i j => .int (i / j)) := od_int (g := fun _ _ => .non) (fun da db m => by cases da <;> cases db <;> first | exact .inr rfl | exact .inl ⟨_, _, rfl, rfl⟩) fun x e m s H Q i j R q => by
  obtain ⟨hj, q⟩ := Fin.ite q
  exact ⟨divW hj, Fin.here R q (.int _)⟩
theorem de_div {fa fb : SE} (ha : DK X w a fa) (hb : DK X w b fb) : DE X w (.BinOp a .FloorDiv b pos) (sBin opDiv fa fb) := de_bin op_fdivW od_div ha hb
def opPow : D → D → Sto → R D
  | .int i, .int j, m => if 0 ≤ j ∧ j ≤ 1000000 ∧ i.natAbs < 2 ^ 64 then .ok (.int (i ^ j.toNat)) m else .bad
  | _, _, _ => .bad
theorem od_pow : OpD pw w opPow (rI CPow fun i j => .int (i ^ j.toNat)) := od_int (g := fun _ _ => .non) (fun da db m => by cases da <;> cases db <;> first | exact .inr rfl | exact .inl ⟨_, _, rfl, rfl⟩) fun x e m s H Q i j R q => by
  obtain ⟨hj, q⟩ := Fin.ite q
  exact ⟨hj, Fin.here R q (.int _)⟩
theorem de_pow {fa fb : SE} (ha : DK X w a fa) (hb : DK X w b fb) : DE X w (.BinOp a .Pow b pos) (sBin opPow fa fb) := de_bin op_pow od_pow ha hb
end
end Dl
set_option autoImplicit true
/-! The data layer: products. -/
namespace L2
open PySem PySem.Spec PyProof.Rows
theorem tuple_mulS (l : Addr) (items : Array Value) (n : Nat) (sl : Array (Option Value)) (dd : Option Addr) (u : Tok) :
    Meets (Builtin.«tuple.__mul__» ⟨[.ref l, .int 1 u], []⟩) (fun _ R s => s.heap.get? l = some { cls := .type "tuple", dict := dd, data := .seq items n, slots := sl } ∧ R (.ok (.ret (Value.ref l))) s) :=
  .of_wp fun prog w A R s h => by
    obtain ⟨hp, g, d, tk, os⟩ := s
    obtain ⟨hl, h⟩ := h
    have f1 := AutoSeq1.idx_int
    have c1 : (items.isEmpty || (1 : Int) == 1) = true := by cases items.isEmpty <;> rfl
    wp_walk using wpAny_loadPart' hl
    repeat (first
      | (refine wpAny_ite_false (decide_eq_false (by decide)) ?_; wp_walk using wpAny_loadPart' hl)
      | (refine wpAny_ite_true (decide_eq_true c1) ?_; wp_walk using wpAny_loadPart' hl))
    exact ⟨_, rfl, h⟩
theorem tuple_mulE (l : Addr) (items : Array Value) (n : Nat) (sl : Array (Option Value)) (dd : Option Addr) (x : Int) (u : Tok) (h0 : x ≤ 0) (h1 : -(2 ^ 63) ≤ x) (hi : items.isEmpty = false) :
    Meets (Builtin.«tuple.__mul__» ⟨[.ref l, .int x u], []⟩) (fun _ R s => s.heap.get? l = some { cls := .type "tuple", dict := dd, data := .seq items n, slots := sl } ∧
      R (.ok (.ret (Value.ref s.heap.objs.size))) { s with heap := s.heap.push { cls := Value.type "tuple", data := Data.seq #[] }, toks := s.toks }) :=
  .of_wp fun prog w A R s h => by
    obtain ⟨hp, g, d, tk, os⟩ := s
    obtain ⟨hl, h⟩ := h
    have f1 := AutoSeq1.idx_int
    have c0 : (decide (x < -(2 ^ 63)) || decide (x ≥ 2 ^ 63)) = false := by
      rw [decide_eq_false (by omega), decide_eq_false (by omega)] <;> rfl
    have c1 : (items.isEmpty || x == 1) = false := by
      rw [hi, Bool.false_or]
      exact beq_eq_false_iff_ne.mpr (by omega)
    have c2 : (decide (x ≤ 0) || items.isEmpty) = true := by
      rw [decide_eq_true h0] <;> rfl
    wp_walk using wpAny_loadPart' hl
    repeat (first
      | (refine wpAny_ite_false (decide_eq_false (by rw [c0]; exact Bool.false_ne_true)) ?_; wp_walk using wpAny_loadPart' hl)
      | (refine wpAny_ite_false (decide_eq_false (by rw [c1]; exact Bool.false_ne_true)) ?_; wp_walk using wpAny_loadPart' hl)
      | (refine wpAny_ite_true (decide_eq_true c2) ?_; wp_walk using wpAny_loadPart' hl))
    exact ⟨_, rfl, h⟩
def rRepZ (K : PySem.W.Frag) : R2 := fun x y H Q => ∃ l k xs, x = .ref l ∧ y = .int k ∧ SqT K H l xs ∧ xs ≠ [] ∧ ((k = 1 ∧ Q (.ref l) H) ∨ (k ≤ 0 ∧ -1000 ≤ k ∧ ∀ p, H p = none → Q (.ref p) (upd H p (.tup []))))
section
variable {X : Cx}
theorem op_repZ : OpR X (binaryOp .Mult) (rRepZ X.K) := by
  intro pins s σ H x y v u Q I rx ry h
  obtain ⟨l, k, xs, rfl, rfl, hT, hne, q⟩ := h
  cases rx
  obtain ⟨t, rfl⟩ := ry
  obtain ⟨its, r, ⟨⟨cls, dd, data, sl⟩, ho, hc, n, hd⟩, hs⟩ := I.tuple hT
  simp only at hc hd
  subst hc hd
  have hle : its.length = xs.length := r.length.symm
  have hn : its ≠ [] := fun e => hne (by
    rw [e] at hle
    exact List.eq_nil_of_length_eq_zero hle.symm)
  have hi : its.toArray.isEmpty = false := by
    cases its with
    | nil => exact absurd rfl hn
    | cons a b => rfl
  refine wpAny_binaryOp_repeat_ref (T := "tuple") (U := "int") (by decide) ⟨_, ho, rfl⟩ (fun s' => typeIs_int s' k t) noFill_tuple_mul F.fills_int_mul F.slot_int_rmul repeat_tuple F.slot_int_index.lookup
    (call_meets F.slot_int_rmul (typeIs_int s k t) F.entry_int_rmul (F.args_int_rmul_2 _ _) (int_rmul_tuple k t l its.toArray n dd sl)
      ⟨ho, rfl, ⟨_, ho, rfl⟩, ?_⟩)
  rcases q with ⟨rfl, q⟩ | ⟨h0, h1, q⟩
  · exact call_meets F.slot_tuple_mul ⟨_, ho, rfl⟩ F.entry_tuple_mul (F.args_tuple_mul_2 _ _) (tuple_mulS l its.toArray n sl dd t) ⟨ho, ⟨.ref l, H, I, rfl, q⟩⟩
  · refine call_meets F.slot_tuple_mul ⟨_, ho, rfl⟩ F.entry_tuple_mul (F.args_tuple_mul_2 _ _) (tuple_mulE l its.toArray n sl dd k t h0 (by omega) hi) ⟨ho, ?_⟩
    refine ⟨.ref s.heap.objs.size, _, I.laid (t' := s.toks) (o := .tup []) (fun b ob q => Heap.get?_push_of_some _ q) (Nat.le_refl _) ?_, rfl, q _ (I.hok.fresh (Nat.le_refl _))⟩
    exact ⟨Nat.zero_le _, [], .nil, IsTup.new _ _⟩
theorem op_mul_str : OpR X (binaryOp .Mult) (fun x y H Q => ∃ z n, x = .str z ∧ y = .int n ∧ MulOk z n ∧ Q (.str (Txt.mul z n)) H) := by
  intro pins s σ H x y v u Q I rx ry h
  obtain ⟨z, n, rfl, rfl, hz, q⟩ := h
  obtain ⟨t, rfl⟩ := rx
  obtain ⟨t', rfl⟩ := ry
  exact SB.mul hz fun t' k => ⟨.str (Txt.mul z n), H, I.tok _, ⟨_, rfl⟩, q⟩
end
end L2
namespace Dl
open PySem PySem.Spec PyProof.Rows L2 TL
def Sml (k : Int) (n : Nat) : Prop := -1000 ≤ k ∧ k ≤ 1000 ∧ n ≤ 1000
instance (k : Int) (n : Nat) : Decidable (Sml k n) := inferInstanceAs (Decidable (_ ∧ _ ∧ _))
def opMul : D → D → Sto → R D
  | .int i, .int j, m => if (-(2 ^ 64) < i ∧ i < 2 ^ 64) ∨ (-(2 ^ 64) < j ∧ j < 2 ^ 64) then .ok (.int (i * j)) m else .bad
  | .str x, .int k, m => if Sml k x.length then .ok (.str (List.replicate k.toNat x).flatten) m else .bad
  | .lst x, .int k, m => if Sml k x.length then .ok (.lst (List.replicate k.toNat x).flatten) m else .bad
  | .tup x, .int k, m => if x ≠ [] ∧ Sml k x.length then .ok (.tup (List.replicate k.toNat x).flatten) m else .bad
  | _, _, _ => .bad
def rMulA (K : PySem.W.Frag) : R2 := fun x y H Q => rI CMul (fun i j => .int (i * j)) x y H Q ∨ (∃ z n, x = .str z ∧ y = .int n ∧ MulOk z n ∧ Q (.str (Txt.mul z n)) H) ∨ rRep x y H Q ∨ rRepT K x y H Q ∨ rRepZ K x y H Q
theorem op_mulA {X : Cx} : OpR X (binaryOp .Mult) (rMulA X.K) := OpR.or op_mul (OpR.or op_mul_str (OpR.or op_rep (OpR.or op_repT op_repZ)))
theorem txt_mul (x : List Nat) (k : Int) : Txt.mul ⟨x.toArray⟩ k = ⟨((List.replicate k.toNat x).flatten).toArray⟩ := by
  unfold Txt.mul
  by_cases h1 : k < 1
  · rw [if_pos h1]
    have : k.toNat = 0 := by omega
    rw [this]
    rfl
  · rw [if_neg h1]
    by_cases h2 : ((k == 1 || (⟨x.toArray⟩ : Str).length == 0) = true)
    · rw [if_pos h2]
      rw [Bool.or_eq_true] at h2
      rcases h2 with h2 | h2
      · have : k = 1 := by simpa using h2
        subst this
        simp
      · have : x = [] := by simpa [Str.length] using h2
        subst this
        simp
    · rw [if_neg h2]
      have e : ∀ (n : Nat) (acc : List Nat), ((List.replicate n x.toArray).foldl (· ++ ·) acc.toArray) = (acc ++ (List.replicate n x).flatten).toArray := by
        intro n
        induction n with
        | zero => intro acc; simp
        | succ n ih =>
          intro acc
          rw [List.replicate_succ, List.foldl_cons, List.replicate_succ, List.flatten_cons]
          have : acc.toArray ++ x.toArray = (acc ++ x).toArray := by simp
          rw [this, ih, List.append_assoc]
      have := e k.toNat []
      simp only [List.nil_append] at this
      exact congrArg Str.mk this
theorem Reps.rep {F : Hp} {io : List Addr} {ds : List D} {vs : List V} (h : Reps F io ds vs) : ∀ n : Nat, Reps F io (List.replicate n ds).flatten (List.replicate n vs).flatten
  | 0 => .nil
  | n + 1 => by
    rw [List.replicate_succ, List.replicate_succ, List.flatten_cons, List.flatten_cons]
    exact h.append (Reps.rep h n)
section
variable {X : Cx} {w : Wi} {a b : Expr} {pos : Pos}
theorem od_mul (K : PySem.W.Frag) : OpD pw w opMul (rMulA K) := by
  intro x e m s H Q da db va vb R pa pb h
  cases da <;> cases db <;> first
    | exact h.elim
    | skip
  · have ea := pa.int; have eb := pb.int
    subst ea eb
    obtain ⟨hz, h⟩ := Fin.ite h
    exact .inl ⟨_, _, rfl, rfl, hz, Fin.here R h (.int _)⟩
  · rename_i z k
    have ea := pa.str; have eb := pb.int
    subst ea eb
    obtain ⟨⟨h1, h2, h3⟩, h⟩ := Fin.ite h
    refine .inr (.inl ⟨_, _, rfl, rfl, ?_, ?_⟩)
    · have hz : (⟨z.toArray⟩ : Str).length = z.length := str_len z
      refine ⟨?_, fun h4 h5 => ?_, fun h4 h5 => ?_⟩
      · rw [decide_eq_false (by omega), decide_eq_false (by omega)] <;> rfl
      · rw [hz]
        have : (9223372036854775807 : Int) / k ≥ 9223372036854775807 / 1000 := by
          refine Int.le_ediv_of_mul_le (by omega) ?_
          have : (9223372036854775807 : Int) / 1000 * k ≤ 9223372036854775807 / 1000 * 1000 := Int.mul_le_mul_of_nonneg_left (by omega) (by decide)
          have h9 : (9223372036854775807 : Int) / 1000 * 1000 ≤ 9223372036854775807 := by decide
          omega
        have e63 : (2 : Int) ^ 63 - 1 = 9223372036854775807 := by decide
        rw [e63]
        have h8 : (9223372036854775807 : Int) / 1000 > 1000 := by decide
        omega
      · rw [hz]
        unfold Builtin.Str.tooLong
        rw [sizeLine_eq]
        refine decide_eq_false ?_
        have a1 : z.length * k.toNat ≤ 1000 * 1000 := Nat.mul_le_mul h3 (by omega)
        omega
    · rw [txt_mul]
      exact Fin.here R h (.str _)
  · rename_i l k
    obtain ⟨a, vs, rfl, haF, ha, q⟩ := pa.tup R
    have eb := pb.int
    subst eb
    obtain ⟨⟨hne, h1, h2, h3⟩, h⟩ := Fin.ite h
    have hv : vs ≠ [] := fun z => by
      subst z
      cases q
      exact hne rfl
    have hl := q.length
    by_cases k1 : k ≤ 0
    · refine .inr (.inr (.inr (.inr ⟨a, k, vs, rfl, rfl, SqT.of ha, hv, .inr ⟨k1, h1, ?_⟩⟩)))
      have k0 : k.toNat = 0 := by omega
      rw [k0] at h
      exact Fin.tuple R h .nil
    · by_cases k2 : k = 1
      · subst k2
        refine .inr (.inr (.inr (.inr ⟨a, 1, vs, rfl, rfl, SqT.of ha, hv, .inl ⟨rfl, ?_⟩⟩)))
        exact Fin.here R h (.tup haF (by simpa using q))
      · refine .inr (.inr (.inr (.inl ⟨a, k, vs, rfl, rfl, SqT.of ha, hv, by omega, h2, by omega, ?_⟩)))
        exact Fin.tuple R h (q.rep _)
  · rename_i l k
    obtain ⟨a, vs, rfl, ha, q⟩ := pa.lst R
    have eb := pb.int
    subst eb
    obtain ⟨⟨h1, h2, h3⟩, h⟩ := Fin.ite h
    have hl := q.length
    refine .inr (.inr (.inl ⟨a, k, vs, rfl, rfl, ha, by omega, by omega, ?_, ?_⟩))
    · have a1 : vs.length * k.toNat ≤ 1000 * 1000 := Nat.mul_le_mul (by omega) (by omega)
      rw [sizeLine_eq]
      omega
    · exact Fin.list R h (q.rep _)
theorem de_mul {fa fb : SE} (ha : DK X w a fa) (hb : DK X w b fb) : DE X w (.BinOp a .Mult b pos) (sBin opMul fa fb) := de_bin op_mulA (od_mul _) ha hb
end
end Dl
set_option autoImplicit true
/-! The data layer: comparisons, tests. -/
namespace Dl
open PySem PySem.Spec PyProof.Rows L2 TL

/-! ### data -/
mutual
def toPy : D → PyData
  | .non => .none
  | .bl b => .bool b
  | .int i => .int i
  | .str s => .str ⟨s.toArray⟩
  | .tup l => .tuple (toPys l)
  | .lst l => .list (toPys l)
  | .dct _ _ => .none
  | .own _ _ => .none
  | .obj _ => .none
  | .cst _ => .none
  | .fn _ _ => .none
  | .erx _ _ _ _ => .none
def toPys : List D → List PyData
  | [] => []
  | d :: l => toPy d :: toPys l
end
def eqD (a b : D) : Bool := PyData.eqv (toPy a) (toPy b)
def eqDs (a b : List D) : Bool := PyData.eqvAll (toPys a) (toPys b)
@[simp] theorem eqD_int (i j : Int) : eqD (.int i) (.int j) = (i == j) := rfl
@[simp] theorem eqD_bl (i j : Bool) : eqD (.bl i) (.bl j) = (i == j) := rfl
@[simp] theorem eqD_str (i j : List Nat) : eqD (.str i) (.str j) = (i == j) := by
  show ((⟨i.toArray⟩ : Str) == ⟨j.toArray⟩) = _
  rw [Bool.eq_iff_iff]
  simp
@[simp] theorem eqD_tup (i j : List D) : eqD (.tup i) (.tup j) = eqDs i j := rfl
@[simp] theorem eqD_lst (i j : List D) : eqD (.lst i) (.lst j) = eqDs i j := rfl
@[simp] theorem eqD_non : eqD .non .non = true := rfl
@[simp] theorem eqDs_nil : eqDs [] [] = true := rfl
@[simp] theorem eqDs_cons (a b : D) (r s : List D) : eqDs (a :: r) (b :: s) = (eqD a b && eqDs r s) := rfl
@[simp] theorem eqDs_nc (b : D) (s : List D) : eqDs [] (b :: s) = false := rfl
@[simp] theorem eqDs_cn (b : D) (s : List D) : eqDs (b :: s) [] = false := rfl
theorem eqDs_map {α : Type} [BEq α] [LawfulBEq α] {f : α → D} (h : ∀ a b, eqD (f a) (f b) = (a == b)) : ∀ l m : List α, eqDs (l.map f) (m.map f) = (l == m)
  | [], [] => rfl
  | [], _ :: _ => rfl
  | _ :: _, [] => rfl
  | a :: l, b :: m => by
    rw [List.map_cons, List.map_cons, eqDs_cons, h, eqDs_map h l m]
    rfl
/-- plain data, nested to a depth -/
def okN : Nat → D → Bool
  | _, .non => true
  | _, .bl _ => true
  | _, .int _ => true
  | _, .str s => s.all (· < 1114112)
  | n + 1, .tup l => l.all (okN n)
  | n + 1, .lst l => l.all (okN n)
  | _, _ => false
@[simp] theorem okN_non (n : Nat) : okN n .non = true := by cases n <;> rfl
@[simp] theorem okN_bl (n : Nat) (b : Bool) : okN n (.bl b) = true := by cases n <;> rfl
@[simp] theorem okN_int (n : Nat) (i : Int) : okN n (.int i) = true := by cases n <;> rfl
@[simp] theorem okN_str (n : Nat) (s : List Nat) : okN n (.str s) = s.all (· < 1114112) := by cases n <;> rfl
@[simp] theorem okN_tup (n : Nat) (l : List D) : okN (n + 1) (.tup l) = l.all (okN n) := rfl
@[simp] theorem okN_lst (n : Nat) (l : List D) : okN (n + 1) (.lst l) = l.all (okN n) := rfl
theorem okN_py : ∀ (n : Nat) (d : D), okN n d = true → (toPy d).canLay0 = true ∧ (toPy d).depth ≤ n := by
  have str : ∀ (n : Nat) (s : List Nat), s.all (· < 1114112) = true → (toPy (.str s)).canLay0 = true ∧ (toPy (.str s)).depth ≤ n := fun n s h => by
    refine ⟨?_, Nat.zero_le _⟩
    show PyData.strOk ⟨s.toArray⟩ = true
    unfold PyData.strOk
    simpa using h
  have lst : ∀ (n : Nat), (∀ d, okN n d = true → (toPy d).canLay0 = true ∧ (toPy d).depth ≤ n) → ∀ l : List D, l.all (okN n) = true → PyData.canLayAll0 (toPys l) = true ∧ PyData.depthAll (toPys l) ≤ n := by
    intro n ih l
    induction l with
    | nil => exact fun _ => ⟨rfl, Nat.zero_le _⟩
    | cons d l il =>
      intro h
      rw [List.all_cons, Bool.and_eq_true] at h
      obtain ⟨a1, a2⟩ := ih d h.1
      obtain ⟨b1, b2⟩ := il h.2
      refine ⟨?_, ?_⟩
      · show (PyData.canLay0 (toPy d) && PyData.canLayAll0 (toPys l)) = true
        rw [a1, b1]
        rfl
      · show max (PyData.depth (toPy d)) (PyData.depthAll (toPys l)) ≤ n
        omega
  intro n
  induction n with
  | zero =>
    intro d h
    cases d with
    | non => exact ⟨rfl, Nat.le_refl _⟩
    | bl b => exact ⟨rfl, Nat.le_refl _⟩
    | int i => exact ⟨rfl, Nat.le_refl _⟩
    | str s => exact str 0 s h
    | tup l => exact absurd h Bool.false_ne_true
    | lst l => exact absurd h Bool.false_ne_true
    | dct k v => exact absurd h Bool.false_ne_true
    | own k v => exact absurd h Bool.false_ne_true
    | obj k => exact absurd h Bool.false_ne_true
    | cst k => exact absurd h Bool.false_ne_true
    | fn k l => exact absurd h Bool.false_ne_true
    | erx k l k' l' => exact absurd h Bool.false_ne_true
  | succ n ih =>
    intro d h
    cases d with
    | non => exact ⟨rfl, Nat.zero_le _⟩
    | bl b => exact ⟨rfl, Nat.zero_le _⟩
    | int i => exact ⟨rfl, Nat.zero_le _⟩
    | str s => exact str _ s h
    | tup l =>
      obtain ⟨a1, a2⟩ := lst n ih l h
      exact ⟨a1, Nat.succ_le_succ a2⟩
    | lst l =>
      obtain ⟨a1, a2⟩ := lst n ih l h
      exact ⟨a1, Nat.succ_le_succ a2⟩
    | dct k v => exact absurd h Bool.false_ne_true
    | own k v => exact absurd h Bool.false_ne_true
    | obj k => exact absurd h Bool.false_ne_true
    | cst k => exact absurd h Bool.false_ne_true
    | fn k l => exact absurd h Bool.false_ne_true
    | erx k l k' l' => exact absurd h Bool.false_ne_true
theorem okN_shaped {d : D} (h : okN 60 d = true) : SeqAt.shaped (toPy d) = true := by
  obtain ⟨a, b⟩ := okN_py 60 d h
  unfold SeqAt.shaped
  rw [a, decide_eq_true (by omega)]
  rfl
theorem rep_dp {K : PySem.W.Frag} {F H : Hp} {io : List Addr} (hs : Sub F H) : ∀ (n : Nat) (d : D) (v : V), okN n d = true → Rep F io d v → Dp K H v (toPy d) := by
  have all : ∀ (n : Nat), (∀ d v, okN n d = true → Rep F io d v → Dp K H v (toPy d)) → ∀ (l : List D) (vs : List V), l.all (okN n) = true → Reps F io l vs → DpAll K H vs (toPys l) := by
    intro n ih l
    induction l with
    | nil =>
      intro vs _ q
      cases q
      exact .nil
    | cons d l il =>
      intro vs h q
      rw [List.all_cons, Bool.and_eq_true] at h
      cases q with
      | cons r t => exact .cons (ih _ _ h.1 r) (il _ h.2 t)
  intro n
  induction n with
  | zero =>
    intro d v h r
    cases r with
    | non => exact .non
    | bl b => exact .bl b
    | int i => exact .int i
    | str s => exact .str _
    | _ => exact absurd h Bool.false_ne_true
  | succ n ih =>
    intro d v h r
    cases r with
    | non => exact .non
    | bl b => exact .bl b
    | int i => exact .int i
    | str s => exact .str _
    | tup e q => exact .tup (SqT.of (hs _ _ e)) (all n ih _ _ h q)
    | lst e q => exact .lst (SqL.of (hs _ _ e)) (all n ih _ _ h q)
    | obj e => exact absurd h Bool.false_ne_true
    | cst k => exact absurd h Bool.false_ne_true
    | fn e1 e2 e3 => exact absurd h Bool.false_ne_true
    | erx e1 => exact absurd h Bool.false_ne_true
    | dct e q => exact absurd h Bool.false_ne_true
theorem reps_dp {K : PySem.W.Frag} {F H : Hp} {io : List Addr} (hs : Sub F H) (n : Nat) : ∀ (l : List D) (vs : List V), l.all (okN n) = true → Reps F io l vs → DpAll K H vs (toPys l)
  | [], _, _, .nil => .nil
  | d :: l, _, h, .cons r t => by
    rw [List.all_cons, Bool.and_eq_true] at h
    exact .cons (rep_dp hs n _ _ h.1 r) (reps_dp hs n l _ h.2 t)
theorem Pk.dp {K : PySem.W.Frag} {x : Sx pw} {r : Env} {m : Sto} {s : L2.St} {H : Hp} {d : D} {v : V} (h : Pk x H d v) (R : Rel x r m s H) (o : okN 60 d = true) : Dp K H v (toPy d) := by
  rcases h with h | ⟨ds, vs, a, rfl, rfl, ha, e, q⟩ | ⟨ks, vs, xs, ep, a, rfl, rfl, ha, e, q⟩
  · exact rep_dp R.sub 60 d v o h
  · exact .lst (SqL.of e) (reps_dp R.sub 59 _ _ o q)
  · exact absurd o Bool.false_ne_true

section
variable {X : Cx} {w : Wi} {a b c e : Expr} {rest : List Expr} {pos : Pos} {fa fb fc : SE}
/-! ### comparisons -/
theorem de_cmp {op : CmpOp} {f : D → D → Sto → R D} {r : R2} (ho : OpR X (compareOp op) r) (h : OpD (pwOf X) w f r) (ha : DK X w a fa) (hb : DK X w b fb) (hm : behindInMarks op b = false) : DE X w (.Compare a [op] [b] pos) (sBin f fa fb) :=
  PE.imp (pe_cmpR ho ha hb hm) fun s H Q q => rd_bin h s H Q q
/-- a value as a test -/
def sB (f : SE) : SB := fun r m => bindR (f r m) fun d m => match d with
  | .bl b => .ok b m
  | _ => .bad
theorem fin_sB {x : Sx pw} {r : Env} {s : L2.St} {H : Hp} {Q : Bool → Hp → Prop} {t : R D} (h : Fin PB w x r s H Q (bindR t fun d m => match d with | .bl b => .ok b m | _ => .bad)) : Fin PV w x r s H (fun v H' => ∃ c, v = .bl c ∧ Q c H') t := by
  cases t with
  | ok d m =>
    cases d with
    | bl b =>
      intro v y H' R p st
      cases p
      exact ⟨b, rfl, h b y H' R rfl st⟩
    | _ => exact h.elim
  | exc c v m => exact h
  | bad => exact h
theorem dt_cmp {op : CmpOp} {f : D → D → Sto → R D} {r : R2} (ho : OpR X (compareOp op) r) (h : OpD (pwOf X) w f r) (ha : DK X w a fa) (hb : DK X w b fb) (hm : behindInMarks op b = false) : DT X w (.Compare a [op] [b] pos) (sB (sBin f fa fb)) :=
  PT.imp (pt_cmpR ho ha hb hm) fun s H Q ⟨x, e, m, R, q⟩ => rd_bin h s H _ ⟨x, e, m, R, fin_sB q⟩
theorem dt_val {f : SE} (h : DE X w e f) (he : ∀ whole, isTrue e X.env whole = (do let v ← whole; standAt e.pos; holding [v] (truthy v)) := by intro _; rfl) : DT X w e (sB f) :=
  PT.imp (pt_val h he) fun s H Q ⟨x, r, m, R, q⟩ => ⟨x, r, m, R, fin_sB q⟩
def opLt : D → D → Sto → R D
  | .int i, .int j, m => .ok (.bl (decide (i < j))) m
  | _, _, _ => .bad
def opLe : D → D → Sto → R D
  | .int i, .int j, m => .ok (.bl (decide (i ≤ j))) m
  | _, _, _ => .bad
def opGt : D → D → Sto → R D
  | .int i, .int j, m => .ok (.bl (decide (j < i))) m
  | _, _, _ => .bad
def opGe : D → D → Sto → R D
  | .int i, .int j, m => .ok (.bl (decide (j ≤ i))) m
  | _, _, _ => .bad
theorem od_lt : OpD pw w opLt (rI0 fun i j => .bl (decide (i < j))) := od_int (g := fun _ _ => .non) (fun da db m => by cases da <;> cases db <;> first | exact .inr rfl | exact .inl ⟨_, _, rfl, rfl⟩) fun x e m s H Q i j R q => Fin.here R q (.bl _)
theorem od_le : OpD pw w opLe (rI0 fun i j => .bl (decide (i ≤ j))) := od_int (g := fun _ _ => .non) (fun da db m => by cases da <;> cases db <;> first | exact .inr rfl | exact .inl ⟨_, _, rfl, rfl⟩) fun x e m s H Q i j R q => Fin.here R q (.bl _)
theorem od_gt : OpD pw w opGt (rI0 fun i j => .bl (decide (j < i))) := od_int (g := fun _ _ => .non) (fun da db m => by cases da <;> cases db <;> first | exact .inr rfl | exact .inl ⟨_, _, rfl, rfl⟩) fun x e m s H Q i j R q => Fin.here R q (.bl _)
theorem od_ge : OpD pw w opGe (rI0 fun i j => .bl (decide (j ≤ i))) := od_int (g := fun _ _ => .non) (fun da db m => by cases da <;> cases db <;> first | exact .inr rfl | exact .inl ⟨_, _, rfl, rfl⟩) fun x e m s H Q i j R q => Fin.here R q (.bl _)
def opEq (a b : D) (m : Sto) : R D := if okN 60 a = true ∧ okN 60 b = true then .ok (.bl (eqD a b)) m else .bad
def opNe (a b : D) (m : Sto) : R D := if okN 60 a = true ∧ okN 60 b = true then .ok (.bl (!eqD a b)) m else .bad
theorem od_eq (K : PySem.W.Frag) : OpD pw w opEq (rEqD K) := by
  intro x e m s H Q da db va vb R pa pb h
  obtain ⟨⟨h1, h2⟩, h⟩ := Fin.ite h
  exact ⟨toPy da, toPy db, pa.dp R h1, pb.dp R h2, okN_shaped h1, okN_shaped h2, Fin.here R h (.bl _)⟩
theorem od_ne (K : PySem.W.Frag) : OpD pw w opNe (rNeD K) := by
  intro x e m s H Q da db va vb R pa pb h
  obtain ⟨⟨h1, h2⟩, h⟩ := Fin.ite h
  exact ⟨toPy da, toPy db, pa.dp R h1, pb.dp R h2, okN_shaped h1, okN_shaped h2, Fin.here R h (.bl _)⟩
/-- in, not in -/
def flatD : D → Bool
  | .non => true
  | .bl _ => true
  | .int _ => true
  | .str _ => true
  | _ => false
def inD (d : D) : D → Option Bool
  | .str z => (match d with
    | .str [c] => some (decide (c ∈ z))
    | _ => none)
  | .tup l => if flatD d = true ∧ l.all flatD = true then some (l.any fun y => eqD y d) else none
  | .lst l => if flatD d = true ∧ l.all flatD = true then some (l.any fun y => eqD y d) else none
  | _ => none
def opIn (a b : D) (m : Sto) : R D := ofO ((inD a b).map D.bl) m
def opNin (a b : D) (m : Sto) : R D := ofO ((inD a b).map fun k => D.bl (!k)) m
theorem flat_rep {F : Hp} {io : List Addr} {d : D} {v : V} (h : Rep F io d v) (f : flatD d = true) : flatV v = true ∧ (∀ d', flatD d' = true → ∀ v', Rep F io d' v' → eqV v v' = eqD d d') := by
  cases h with
  | non =>
    refine ⟨rfl, fun d' f' v' r => ?_⟩
    cases r <;> first | rfl | exact absurd f' Bool.false_ne_true
  | bl b =>
    refine ⟨rfl, fun d' f' v' r => ?_⟩
    cases r <;> first | rfl | exact absurd f' Bool.false_ne_true
  | int b =>
    refine ⟨rfl, fun d' f' v' r => ?_⟩
    cases r <;> first | rfl | exact absurd f' Bool.false_ne_true
  | str b =>
    refine ⟨rfl, fun d' f' v' r => ?_⟩
    cases r <;> first | rfl | exact absurd f' Bool.false_ne_true
  | _ => exact absurd f Bool.false_ne_true
theorem flat_reps {F : Hp} {io : List Addr} {d : D} {v : V} (r : Rep F io d v) (fd : flatD d = true) : ∀ {l : List D} {vs : List V}, Reps F io l vs → l.all flatD = true → vs.all flatV = true ∧ inV v vs = l.any fun y => eqD y d
  | _, _, .nil, _ => ⟨rfl, rfl⟩
  | d' :: l, v' :: vs, .cons r' t, f => by
    rw [List.all_cons, Bool.and_eq_true] at f
    obtain ⟨a1, a2⟩ := flat_rep r' f.1
    obtain ⟨b1, b2⟩ := flat_reps r fd t f.2
    refine ⟨by rw [List.all_cons, a1, b1]; rfl, ?_⟩
    show (eqV v' v || inV v vs) = _
    rw [a2 d fd v r, b2, List.any_cons]
def rInA (K : PySem.W.Frag) (neg : Bool) : R2 := fun x y H Q => (∃ (c : Nat) (z : Str), x = .str ⟨#[c]⟩ ∧ y = .str z ∧ Q (.bl (if neg then !decide (c ∈ z.cps.toList) else decide (c ∈ z.cps.toList))) H) ∨ rIn K neg x y H Q
theorem op_inA : OpR X (compareOp .In) (rInA X.K false) := OpR.or op_in_sign op_in_seq
theorem op_ninA : OpR X (compareOp .NotIn) (rInA X.K true) := OpR.or op_notIn_sign op_notIn_seq
theorem Pk.flat {x : Sx pw} {H : Hp} {d : D} {v : V} (h : Pk x H d v) (f : flatD d = true) : Rep x.F x.io d v := by
  rcases h with h | ⟨ds, vs, a, rfl, rfl, ha, e, q⟩ | ⟨ks, vs, xs, ep, a, rfl, rfl, ha, e, q⟩
  · exact h
  · exact absurd f Bool.false_ne_true
  · exact absurd f Bool.false_ne_true
theorem od_inA (K : PySem.W.Frag) (neg : Bool) : OpD pw w (fun a b m => ofO ((inD a b).map fun k => D.bl (if neg then !k else k)) m) (rInA K neg) := by
  intro x e m s H Q da db va vb R pa pb h
  cases db with
  | str z =>
    have eb := pb.str
    subst eb
    cases da with
    | str l =>
      have ea := pa.str
      subst ea
      match l, h with
      | [c], h => exact .inl ⟨c, _, rfl, rfl, Fin.here R h (.bl _)⟩
      | [], h => exact h.elim
      | _ :: _ :: _, h => exact h.elim
    | _ => exact h.elim
  | tup l =>
    obtain ⟨p, vs, rfl, _, hp, q⟩ := pb.tup R
    by_cases hc : flatD da = true ∧ l.all flatD = true
    · have e1 : inD da (.tup l) = some (l.any fun y => eqD y da) := if_pos hc
      dsimp only at h
      rw [e1] at h
      obtain ⟨b1, b2⟩ := flat_reps (pa.flat hc.1) hc.1 q hc.2
      refine .inr ⟨p, vs, rfl, .inr (SqT.of hp), (flat_rep (pa.flat hc.1) hc.1).1, b1, ?_⟩
      rw [b2]
      exact Fin.here R h (.bl _)
    · have e1 : inD da (.tup l) = none := if_neg hc
      dsimp only at h
      rw [e1] at h
      exact h.elim
  | lst l =>
    obtain ⟨p, vs, rfl, hp, q⟩ := pb.lst R
    by_cases hc : flatD da = true ∧ l.all flatD = true
    · have e1 : inD da (.lst l) = some (l.any fun y => eqD y da) := if_pos hc
      dsimp only at h
      rw [e1] at h
      obtain ⟨b1, b2⟩ := flat_reps (pa.flat hc.1) hc.1 q hc.2
      refine .inr ⟨p, vs, rfl, .inl (SqL.of hp), (flat_rep (pa.flat hc.1) hc.1).1, b1, ?_⟩
      rw [b2]
      exact Fin.here R h (.bl _)
    · have e1 : inD da (.lst l) = none := if_neg hc
      dsimp only at h
      rw [e1] at h
      exact h.elim
  | _ => exact h.elim
theorem od_in (K : PySem.W.Frag) : OpD pw w opIn (rInA K false) := od_inA K false
theorem od_nin (K : PySem.W.Frag) : OpD pw w opNin (rInA K true) := od_inA K true
/-- is None -/
def isNonD : D → Option Bool
  | .non => some true
  | .cst _ => none
  | _ => some false
def opIs : D → D → Sto → R D
  | a, .non, m => ofO ((isNonD a).map D.bl) m
  | _, _, _ => .bad
def opIsn : D → D → Sto → R D
  | a, .non, m => ofO ((isNonD a).map fun k => D.bl (!k)) m
  | _, _, _ => .bad
theorem Pk.isNon {x : Sx pw} {H : Hp} {d : D} {v : V} (h : Pk x H d v) {k : Bool} (e : isNonD d = some k) : decide (v = .non) = k := by
  rcases h with h | ⟨ds, vs, a, rfl, rfl, ha, _, q⟩ | ⟨ks, vs, xs, ep, a, rfl, rfl, ha, _, q⟩
  · cases h <;> first | (cases e; done) | (cases e; simp)
  · cases e
    simp
  · cases e
    simp
theorem od_is : OpD pw w opIs (fun x y H Q => y = .non ∧ Q (.bl (decide (x = .non))) H) := by
  intro x e m s H Q da db va vb R pa pb h
  cases db with
  | non =>
    have eb := pb.non
    refine ⟨eb, ?_⟩
    have h : Fin PV w x e s H Q (ofO ((isNonD da).map D.bl) m) := h
    cases ek : isNonD da with
    | none =>
      rw [ek] at h
      exact h.elim
    | some k =>
      rw [ek] at h
      rw [pa.isNon ek]
      exact Fin.here R h (.bl _)
  | _ => exact h.elim
theorem od_isn : OpD pw w opIsn (fun x y H Q => y = .non ∧ Q (.bl (!decide (x = .non))) H) := by
  intro x e m s H Q da db va vb R pa pb h
  cases db with
  | non =>
    have eb := pb.non
    refine ⟨eb, ?_⟩
    have h : Fin PV w x e s H Q (ofO ((isNonD da).map fun k => D.bl (!k)) m) := h
    cases ek : isNonD da with
    | none =>
      rw [ek] at h
      exact h.elim
    | some k =>
      rw [ek] at h
      rw [pa.isNon ek]
      exact Fin.here R h (.bl _)
  | _ => exact h.elim

/-! ### and, or, not -/
def sAnd (t u : SB) : SB := fun r m => bindR (t r m) fun b m => if b = true then u r m else .ok false m
def sOr (t u : SB) : SB := fun r m => bindR (t r m) fun b m => if b = true then .ok true m else u r m
def sNot (t : SB) : SB := fun r m => bindR (t r m) fun b m => .ok (!b) m
variable {ta tb tc : SB}
theorem dw_and1 (h : DT X w a ta) : DW X w (.BoolOp .And [a] pos) ta := pw_and1 h
theorem dw_or1 (h : DT X w a ta) : DW X w (.BoolOp .Or [a] pos) ta := pw_or1 h
theorem dw_and (ha : DT X w a ta) (hb : DW X w (.BoolOp .And (b :: rest) pos) tb) : DW X w (.BoolOp .And (a :: b :: rest) pos) (sAnd ta tb) :=
  PW.imp (pw_and ha hb) fun s H Q ⟨x, r, m, R, q⟩ => by
    refine rd_bind R q fun k m1 v y H1 R1 p1 st1 q1 => ?_
    cases p1
    cases k with
    | true =>
      rw [if_pos rfl] at q1 ⊢
      exact ⟨y, r, m1, R1, q1⟩
    | false =>
      rw [if_neg Bool.false_ne_true] at q1 ⊢
      exact Fin.here R1 q1 rfl
theorem dw_or (ha : DT X w a ta) (hb : DW X w (.BoolOp .Or (b :: rest) pos) tb) : DW X w (.BoolOp .Or (a :: b :: rest) pos) (sOr ta tb) :=
  PW.imp (pw_or ha hb) fun s H Q ⟨x, r, m, R, q⟩ => by
    refine rd_bind R q fun k m1 v y H1 R1 p1 st1 q1 => ?_
    cases p1
    cases k with
    | true =>
      rw [if_pos rfl] at q1 ⊢
      exact Fin.here R1 q1 rfl
    | false =>
      rw [if_neg Bool.false_ne_true] at q1 ⊢
      exact ⟨y, r, m1, R1, q1⟩
theorem dt_w (h : DW X w e ta) : DT X w e ta := PW.pt h
theorem dt_not (ha : DT X w a ta) : DT X w (.UnaryOp .Not a pos) (sNot ta) :=
  PT.imp (pt_not ha) fun s H Q ⟨x, r, m, R, q⟩ => by
    refine rd_bind R q fun k m1 v y H1 R1 p1 st1 q1 => ?_
    cases p1
    exact Fin.here R1 q1 rfl
/-- as values -/
def sAndV (fa fb : SE) : SE := fun r m => bindR (sB fa r m) fun b m => if b = true then fb r m else .ok (.bl false) m
def sOrV (fa fb : SE) : SE := fun r m => bindR (sB fa r m) fun b m => if b = true then .ok (.bl true) m else fb r m
def sNotV (fa : SE) : SE := fun r m => bindR (sB fa r m) fun b m => .ok (.bl (!b)) m
theorem rd_bindB {f : SE} {g : Bool → Sto → R D} {x : Sx pw} {r : Env} {m : Sto} {s : L2.St} {H : Hp} {Q : VK} {K : V → Hp → Prop} (R : Rel x r m s H) (h : Fin PV w x r s H Q (bindR (sB f r m) g))
    (k : ∀ c m' y H', Rel y r m' s H' → StE x H y H' → Fin PV w y r s H' Q (g c m') → K (.bl c) H') : rd (PV (pw := pw)) w f s H K := by
  have h' : Fin PV w x r s H Q (bindR (f r m) fun d m => bindR (match d with | .bl b => .ok b m | _ => .bad) g) := by
    unfold sB at h
    cases e : f r m with
    | ok d m' =>
      rw [e] at h
      exact h
    | exc c v m' =>
      rw [e] at h
      exact h
    | bad =>
      rw [e] at h
      exact h
  refine rd_bind R h' fun d m1 v y H1 R1 p1 st1 q1 => ?_
  cases d with
  | bl c =>
    cases p1
    exact k c m1 y H1 R1 st1 q1
  | _ => exact q1.elim
theorem de_one {op} {f : SE} (h : DE X w a f) : DE X w (.BoolOp op [a] pos) f := pe_one h
theorem de_and (ha : DE X w a fa) (hb : DE X w (.BoolOp .And (b :: rest) pos) fb) : DE X w (.BoolOp .And (a :: b :: rest) pos) (sAndV fa fb) :=
  PE.imp (pe_and ha hb) fun s H Q ⟨x, r, m, R, q⟩ => by
    refine rd_bindB R q fun c m1 y H1 R1 st1 q1 => ⟨c, rfl, ?_⟩
    cases c with
    | true =>
      rw [if_pos rfl] at q1 ⊢
      exact ⟨y, r, m1, R1, q1⟩
    | false =>
      rw [if_neg Bool.false_ne_true] at q1 ⊢
      exact Fin.here R1 q1 (.bl _)
theorem de_or (ha : DE X w a fa) (hb : DE X w (.BoolOp .Or (b :: rest) pos) fb) : DE X w (.BoolOp .Or (a :: b :: rest) pos) (sOrV fa fb) :=
  PE.imp (pe_or ha hb) fun s H Q ⟨x, r, m, R, q⟩ => by
    refine rd_bindB R q fun c m1 y H1 R1 st1 q1 => ⟨c, rfl, ?_⟩
    cases c with
    | true =>
      rw [if_pos rfl] at q1 ⊢
      exact Fin.here R1 q1 (.bl _)
    | false =>
      rw [if_neg Bool.false_ne_true] at q1 ⊢
      exact ⟨y, r, m1, R1, q1⟩
theorem de_not (ha : DE X w a fa) : DE X w (.UnaryOp .Not a pos) (sNotV fa) :=
  PE.imp (pe_not ha) fun s H Q ⟨x, r, m, R, q⟩ => by
    refine rd_bindB R q fun c m1 y H1 R1 st1 q1 => ⟨c, rfl, ?_⟩
    exact Fin.here R1 q1 (.bl _)
/-- a if t else b -/
def sIf (t : SB) (fa fb : SE) : SE := fun r m => bindR (t r m) fun b m => if b = true then fa r m else fb r m
theorem de_if (hc : DT X w c tc) (ha : DE X w a fa) (hb : DE X w b fb) : DE X w (.IfExp c a b pos) (sIf tc fa fb) :=
  PE.imp (pe_ifExp hc ha hb) fun s H Q ⟨x, r, m, R, q⟩ => by
    refine rd_bind R q fun k m1 v y H1 R1 p1 st1 q1 => ?_
    cases p1
    cases k with
    | true =>
      rw [if_pos rfl] at q1 ⊢
      exact ⟨y, r, m1, R1, q1⟩
    | false =>
      rw [if_neg Bool.false_ne_true] at q1 ⊢
      exact ⟨y, r, m1, R1, q1⟩
/-- a op b op' c -/
def sChain (f g : D → D → Sto → R D) (fa fb fc : SE) : SE := fun r m => bindR (fa r m) fun x m => bindR (fb r m) fun y m => bindR (f x y m) fun k m => match k with
  | .bl true => bindR (fc r m) fun z m => g y z m
  | .bl false => .ok (.bl false) m
  | _ => .bad
/-- a comparison that makes nothing: its answer at once -/
def CmD (pw : PWd) (f : D → D → Sto → R D) (r : R2) : Prop := ∀ (x : Sx pw) (e : Env) (m : Sto) (s : L2.St) (H : Hp) (da db : D) (va vb : V), Rel x e m s H → Pk x H da va → Pk x H db vb → (f da db m = .bad) ∨ ∃ k, f da db m = .ok (.bl k) m ∧ ∀ Q : VK, Q (.bl k) H → r va vb H Q
theorem cm_int {f : D → D → Sto → R D} {g : Int → Int → Bool} (h1 : ∀ i j m, f (.int i) (.int j) m = .ok (.bl (g i j)) m) (h2 : ∀ da db m, (∃ i j, da = .int i ∧ db = .int j) ∨ f da db m = .bad) : CmD pw f (rI0 fun i j => .bl (g i j)) := by
  intro x e m s H da db va vb R pa pb
  rcases h2 da db m with ⟨i, j, rfl, rfl⟩ | z
  · have ea := pa.int; have eb := pb.int
    subst ea eb
    exact .inr ⟨g i j, h1 i j m, fun Q q => ⟨i, j, rfl, rfl, q⟩⟩
  · exact .inl z
theorem cm_lt : CmD pw opLt (rI0 fun i j => .bl (decide (i < j))) := cm_int (fun _ _ _ => rfl) fun da db m => by cases da <;> cases db <;> first | exact .inr rfl | exact .inl ⟨_, _, rfl, rfl⟩
theorem cm_le : CmD pw opLe (rI0 fun i j => .bl (decide (i ≤ j))) := cm_int (fun _ _ _ => rfl) fun da db m => by cases da <;> cases db <;> first | exact .inr rfl | exact .inl ⟨_, _, rfl, rfl⟩
theorem rd_chain {f g : D → D → Sto → R D} {r r' : R2} (hf : CmD pw f r) (hg : OpD pw w g r') (s : L2.St) (H : Hp) (Q : VK) (q : rd (PV (pw := pw)) w (sChain f g fa fb fc) s H Q) : tChain r r' (rd (Pk (pw := pw)) w fa) (rd (Pk (pw := pw)) w fb) (rd (Pk (pw := pw)) w fc) s H Q := by
  obtain ⟨x, e, m, R, q⟩ := q
  refine rd_bind R q fun da m1 va y H1 R1 p1 st1 q1 => ?_
  refine rd_bind R1 q1 fun db m2 vb z H2 R2 p2 st2 q2 => ?_
  rcases hf z e m2 s H2 da db va vb R2 (p1.stay R1 st2) p2 with z1 | ⟨k, z1, hr⟩
  · rw [z1] at q2
    exact q2.elim
  · rw [z1] at q2
    refine hr _ ⟨k, rfl, ?_⟩
    cases k with
    | false =>
      rw [if_neg Bool.false_ne_true]
      exact Fin.here R2 q2 (.bl _)
    | true =>
      rw [if_pos rfl]
      refine rd_bind R2 q2 fun dc m3 vc u H3 R3 p3 st3 q3 => ?_
      exact hg u e m3 s H3 Q db dc vb vc R3 (p2.stay R2 st3) p3 q3
theorem de_chain {op op' : CmpOp} {f g : D → D → Sto → R D} {r r' : R2} (ho : OpR X (compareOp op) r) (ho' : OpR X (compareOp op') r') (hf : CmD (pwOf X) f r) (hg : OpD (pwOf X) w g r') (ha : DK X w a fa) (hb : DK X w b fb) (hc : DK X w c fc)
    (hm : lastMarks [op, op'] [b, c] = false := by with_unfolding_all rfl) : DE X w (.Compare a [op, op'] [b, c] pos) (sChain f g fa fb fc) :=
  PE.imp (pe_chain ho ho' ha hb hc hm) fun s H Q q => rd_chain hf hg s H Q q
theorem dt_chain {op op' : CmpOp} {f g : D → D → Sto → R D} {r r' : R2} (ho : OpR X (compareOp op) r) (ho' : OpR X (compareOp op') r') (hf : CmD (pwOf X) f r) (hg : OpD (pwOf X) w g r') (ha : DK X w a fa) (hb : DK X w b fb) (hc : DK X w c fc)
    (hm : lastMarks [op, op'] [b, c] = false := by with_unfolding_all rfl) : DT X w (.Compare a [op, op'] [b, c] pos) (sB (sChain f g fa fb fc)) :=
  PT.imp (pt_chain ho ho' ha hb hc hm) fun s H Q ⟨x, e, m, R, q⟩ => rd_chain hf hg s H _ ⟨x, e, m, R, fin_sB q⟩
/-! ### short names -/
theorem de_lt (ha : DK X w a fa) (hb : DK X w b fb) : DE X w (.Compare a [.Lt] [b] pos) (sBin opLt fa fb) := de_cmp op_lt od_lt ha hb (nomark _)
theorem de_le (ha : DK X w a fa) (hb : DK X w b fb) : DE X w (.Compare a [.LtE] [b] pos) (sBin opLe fa fb) := de_cmp op_le od_le ha hb (nomark _)
theorem de_gt (ha : DK X w a fa) (hb : DK X w b fb) : DE X w (.Compare a [.Gt] [b] pos) (sBin opGt fa fb) := de_cmp op_gt od_gt ha hb (nomark _)
theorem de_ge (ha : DK X w a fa) (hb : DK X w b fb) : DE X w (.Compare a [.GtE] [b] pos) (sBin opGe fa fb) := de_cmp op_ge od_ge ha hb (nomark _)
theorem de_eq (hu : X.A.units + 64 < cLine) (ha : DK X w a fa) (hb : DK X w b fb) : DE X w (.Compare a [.Eq] [b] pos) (sBin opEq fa fb) := de_cmp (op_eqD hu) (od_eq _) ha hb (nomark _)
theorem de_ne (hu : X.A.units + 64 < cLine) (ha : DK X w a fa) (hb : DK X w b fb) : DE X w (.Compare a [.NotEq] [b] pos) (sBin opNe fa fb) := de_cmp (op_neD hu) (od_ne _) ha hb (nomark _)
theorem de_in (ha : DK X w a fa) (hb : DK X w b fb) (hm : behindInMarks .In b = false := by rfl) : DE X w (.Compare a [.In] [b] pos) (sBin opIn fa fb) := de_cmp op_inA (od_in _) ha hb hm
theorem de_nin (ha : DK X w a fa) (hb : DK X w b fb) (hm : behindInMarks .NotIn b = false := by rfl) : DE X w (.Compare a [.NotIn] [b] pos) (sBin opNin fa fb) := de_cmp op_ninA (od_nin _) ha hb hm
theorem de_is (ha : DK X w a fa) (hb : DK X w b fb) : DE X w (.Compare a [.Is] [b] pos) (sBin opIs fa fb) := de_cmp op_isN od_is ha hb (nomark _)
theorem de_isn (ha : DK X w a fa) (hb : DK X w b fb) : DE X w (.Compare a [.IsNot] [b] pos) (sBin opIsn fa fb) := de_cmp op_notN od_isn ha hb (nomark _)
theorem dt_lt (ha : DK X w a fa) (hb : DK X w b fb) : DT X w (.Compare a [.Lt] [b] pos) (sB (sBin opLt fa fb)) := dt_cmp op_lt od_lt ha hb (nomark _)
theorem dt_le (ha : DK X w a fa) (hb : DK X w b fb) : DT X w (.Compare a [.LtE] [b] pos) (sB (sBin opLe fa fb)) := dt_cmp op_le od_le ha hb (nomark _)
theorem dt_gt (ha : DK X w a fa) (hb : DK X w b fb) : DT X w (.Compare a [.Gt] [b] pos) (sB (sBin opGt fa fb)) := dt_cmp op_gt od_gt ha hb (nomark _)
theorem dt_ge (ha : DK X w a fa) (hb : DK X w b fb) : DT X w (.Compare a [.GtE] [b] pos) (sB (sBin opGe fa fb)) := dt_cmp op_ge od_ge ha hb (nomark _)
theorem dt_eq (hu : X.A.units + 64 < cLine) (ha : DK X w a fa) (hb : DK X w b fb) : DT X w (.Compare a [.Eq] [b] pos) (sB (sBin opEq fa fb)) := dt_cmp (op_eqD hu) (od_eq _) ha hb (nomark _)
theorem dt_ne (hu : X.A.units + 64 < cLine) (ha : DK X w a fa) (hb : DK X w b fb) : DT X w (.Compare a [.NotEq] [b] pos) (sB (sBin opNe fa fb)) := dt_cmp (op_neD hu) (od_ne _) ha hb (nomark _)
theorem dt_in (ha : DK X w a fa) (hb : DK X w b fb) (hm : behindInMarks .In b = false := by rfl) : DT X w (.Compare a [.In] [b] pos) (sB (sBin opIn fa fb)) := dt_cmp op_inA (od_in _) ha hb hm
theorem dt_nin (ha : DK X w a fa) (hb : DK X w b fb) (hm : behindInMarks .NotIn b = false := by rfl) : DT X w (.Compare a [.NotIn] [b] pos) (sB (sBin opNin fa fb)) := dt_cmp op_ninA (od_nin _) ha hb hm
theorem dt_is (ha : DK X w a fa) (hb : DK X w b fb) : DT X w (.Compare a [.Is] [b] pos) (sB (sBin opIs fa fb)) := dt_cmp op_isN od_is ha hb (nomark _)
theorem dt_isn (ha : DK X w a fa) (hb : DK X w b fb) : DT X w (.Compare a [.IsNot] [b] pos) (sB (sBin opIsn fa fb)) := dt_cmp op_notN od_isn ha hb (nomark _)
theorem de_lele (ha : DK X w a fa) (hb : DK X w b fb) (hc : DK X w c fc) (hm : lastMarks [.LtE, .LtE] [b, c] = false := by with_unfolding_all rfl) : DE X w (.Compare a [.LtE, .LtE] [b, c] pos) (sChain opLe opLe fa fb fc) := de_chain op_le op_le cm_le od_le ha hb hc hm
theorem de_lelt (ha : DK X w a fa) (hb : DK X w b fb) (hc : DK X w c fc) (hm : lastMarks [.LtE, .Lt] [b, c] = false := by with_unfolding_all rfl) : DE X w (.Compare a [.LtE, .Lt] [b, c] pos) (sChain opLe opLt fa fb fc) := de_chain op_le op_lt cm_le od_lt ha hb hc hm
theorem dt_lele (ha : DK X w a fa) (hb : DK X w b fb) (hc : DK X w c fc) (hm : lastMarks [.LtE, .LtE] [b, c] = false := by with_unfolding_all rfl) : DT X w (.Compare a [.LtE, .LtE] [b, c] pos) (sB (sChain opLe opLe fa fb fc)) := dt_chain op_le op_le cm_le od_le ha hb hc hm
theorem dt_lelt (ha : DK X w a fa) (hb : DK X w b fb) (hc : DK X w c fc) (hm : lastMarks [.LtE, .Lt] [b, c] = false := by with_unfolding_all rfl) : DT X w (.Compare a [.LtE, .Lt] [b, c] pos) (sB (sChain opLe opLt fa fb fc)) := dt_chain op_le op_lt cm_le od_lt ha hb hc hm
def sNeg (f : SE) : SE := fun r m => bindR (f r m) fun d m => match d with
  | .int i => .ok (.int (-i)) m
  | _ => .bad
theorem de_neg (ha : DE X w a fa) : DE X w (.UnaryOp .USub a pos) (sNeg fa) :=
  PE.imp (pe_un un_neg ha) fun s H Q ⟨x, r, m, R, q⟩ => by
    refine rd_bind R q fun d m1 v y H1 R1 p1 st1 q1 => ?_
    cases d with
    | int i =>
      cases p1
      exact ⟨i, rfl, Fin.here R1 q1 (.int _)⟩
    | _ => exact q1.elim
end
end Dl
set_option autoImplicit true
/-! The data layer: arguments, displays, subscripts, slices, built-in calls. -/
namespace Dl
open PySem PySem.Spec PyProof.Rows L2 TL

def aNil : SL := fun _ m => .ok [] m
def aCons (f : SE) (g : SL) : SL := fun r m => bindR (f r m) fun d m => bindR (g r m) fun ds m => .ok (d :: ds) m
section
variable {X : Cx} {w : Wi} {a b c e : Expr} {es rest : List Expr} {pos p : Pos} {fa fb fc f : SE} {g : SL}
theorem da_nil : DA X w [] aNil := PA.imp pa_nil fun s H Q ⟨x, r, m, R, q⟩ => Fin.here R q .nil
theorem da_cons (ha : DE X w e f) (hr : DA X w es g) (hs : starEach (e :: es) X.env = (false, eval e X.env) :: starEach es X.env := by rfl) : DA X w (e :: es) (aCons f g) :=
  PA.imp (pa_cons ha hr hs) fun s H Q ⟨x, r, m, R, q⟩ => by
    refine rd_bind R q fun d m1 v y H1 R1 p1 st1 q1 => ?_
    refine rd_bind R1 q1 fun ds m2 vs z H2 R2 p2 st2 q2 => ?_
    exact Fin.here R2 q2 (.cons (p1.mono st2.st.F st2.st.io) p2)
theorem dk_nil : DAk X w [] aNil := da_nil.k
theorem dk_cons (ha : DK X w e f) (hr : DAk X w es g) (hs : starEach (e :: es) X.env = (false, eval e X.env) :: starEach es X.env := by rfl) : DAk X w (e :: es) (aCons f g) :=
  PA.imp (pa_cons ha hr hs) fun s H Q ⟨x, r, m, R, q⟩ => by
    refine rd_bind R q fun d m1 v y H1 R1 p1 st1 q1 => ?_
    refine rd_bind R1 q1 fun ds m2 vs z H2 R2 p2 st2 q2 => ?_
    exact Fin.here R2 q2 (.cons (p1.stay R1 st2) p2)

/-! ### displays -/
def sTup (g : SL) : SE := fun r m => bindR (g r m) fun ds m => if ds.length ≤ LIM then .ok (.tup ds) m else .bad
def sLst (g : SL) : SE := fun r m => bindR (g r m) fun ds m => if ds.length ≤ LIM then .ok (.lst ds) m else .bad
theorem de_tup {k : Nat} (h : DA X w es g) : DE X w (.Tuple es k pos) (sTup g) :=
  PE.imp (pe_tup h) fun s H Q ⟨x, r, m, R, q⟩ => by
    refine rd_bind R q fun ds m1 vs y H1 R1 p1 st1 q1 => ?_
    obtain ⟨hz, q1⟩ := Fin.ite q1
    have hl : ds.length = vs.length := p1.length
    exact ⟨by rw [← hl, ← lim_eq]; exact hz, Fin.tuple R1 q1 p1⟩
theorem de_lst (h : DA X w es g) : DE X w (.List es pos) (sLst g) :=
  PE.imp (pe_lst h) fun s H Q ⟨x, r, m, R, q⟩ => by
    refine rd_bind R q fun ds m1 vs y H1 R1 p1 st1 q1 => ?_
    obtain ⟨hz, q1⟩ := Fin.ite q1
    have hl : ds.length = vs.length := p1.length
    exact ⟨by rw [← hl, ← lim_eq]; exact hz, Fin.list R1 q1 p1⟩

/-! ### subscripts -/
def ixD : D → D → Option D
  | .lst l, .int i => atI l i
  | .tup l, .int i => atI l i
  | .str z, .int i => if z.length ≤ LIM then (atI z i).map fun c => .str [c] else none
  | _, _ => none
def opIx (a b : D) (m : Sto) : R D := ofO (ixD a b) m
theorem atI_reps {F : Hp} {io : List Addr} {l : List D} {vs : List V} (h : Reps F io l vs) {i : Int} {d : D} (e : atI l i = some d) : ∃ v, atI vs i = some v ∧ Rep F io d v := by
  unfold atI at e ⊢
  rw [← h.length]
  cases k : ixN l.length i with
  | none =>
    rw [k] at e
    cases e
  | some j =>
    rw [k] at e
    exact h.get e
theorem od_ix (K : PySem.W.Frag) : OpD pw w opIx (rIx K) := by
  intro x e m s H Q da db va vb R pa pb h
  cases db with
  | int i =>
    have eb := pb.int
    subst eb
    cases da with
    | lst l =>
      obtain ⟨p, vs, rfl, hp, q⟩ := pa.lst R
      have h : Fin PV w x e s H Q (ofO (atI l i) m) := h
      cases k : atI l i with
      | none =>
        rw [k] at h
        exact h.elim
      | some d =>
        rw [k] at h
        obtain ⟨v, e1, r1⟩ := atI_reps q k
        exact .inl ⟨p, vs, i, v, rfl, rfl, SqL.of hp, e1, Fin.here R h r1⟩
    | tup l =>
      obtain ⟨p, vs, rfl, _, hp, q⟩ := pa.tup R
      have h : Fin PV w x e s H Q (ofO (atI l i) m) := h
      cases k : atI l i with
      | none =>
        rw [k] at h
        exact h.elim
      | some d =>
        rw [k] at h
        obtain ⟨v, e1, r1⟩ := atI_reps q k
        exact .inr (.inl ⟨p, vs, i, v, rfl, rfl, SqT.of hp, e1, Fin.here R h r1⟩)
    | str z =>
      have ea := pa.str
      subst ea
      have h : Fin PV w x e s H Q (ofO (if z.length ≤ LIM then (atI z i).map fun c => .str [c] else none) m) := h
      by_cases hz : z.length ≤ LIM
      · rw [if_pos hz] at h
        cases k : atI z i with
        | none =>
          rw [k] at h
          exact h.elim
        | some c =>
          rw [k] at h
          refine .inr (.inr ⟨⟨z.toArray⟩, i, c, rfl, rfl, by rw [str_len, ← lim_eq]; exact hz, k, Fin.here R h (.str [c])⟩)
      · rw [if_neg hz] at h
        exact h.elim
    | _ => exact h.elim
  | _ => cases da <;> exact h.elim
theorem de_ix (ha : DK X w a fa) (hb : DK X w b fb) (hs : PlainIx b := by exact fun _ _ => rfl) : DE X w (.Subscript a b pos) (sBin opIx fa fb) :=
  PE.imp (pe_ix ix_seq ha hb hs) fun s H Q q => rd_bin (od_ix _) s H Q q

/-! ### slices -/
abbrev SO := Sem1 (Option Int)
abbrev DO (X : Cx) (w : Wi) (e : Option Expr) (t : SO) : Prop := PO X e (rd (pw := pwOf X) (fun _ _ a b => a = b) w t)
def oNone : SO := fun _ m => .ok none m
def oSome (f : SE) : SO := fun r m => bindR (f r m) fun d m => match d with
  | .int i => .ok (some i) m
  | _ => .bad
theorem do_none : DO X w none oNone := ⟨fun pins s σ H Q I ⟨x, r, m, R, q⟩ => po_none.run pins s σ H Q I (Fin.here R q rfl)⟩
theorem do_some (h : DK X w e f) : DO X w (some e) (oSome f) := ⟨fun pins s σ H Q I ⟨x, r, m, R, q⟩ => (po_some h).run pins s σ H Q I (by
  refine rd_bind R q fun d m1 v y H1 R1 p1 st1 q1 => ?_
  cases d with
  | int i => exact ⟨i, p1.int, Fin.here R1 q1 rfl⟩
  | _ => exact q1.elim)⟩
def cutL {α : Type} (l : List α) (lo hi : Option Int) : List α := (l.drop (HT.sIx l.length 0 lo)).take (HT.sIx l.length l.length hi - HT.sIx l.length 0 lo)
def opSl (d : D) (lo hi : Option Int) (m : Sto) : R D := match d with
  | .lst l => .ok (.lst (cutL l lo hi)) m
  | .tup l => .ok (.tup (cutL l lo hi)) m
  | .str z => if z.length ≤ LIM then .ok (.str (cutL z lo hi)) m else .bad
  | _ => .bad
def sSl (f : SE) (lo hi : SO) : SE := fun r m => bindR (f r m) fun d m => bindR (lo r m) fun l m => bindR (hi r m) fun u m => opSl d l u m
def rSlAny (K : PySem.W.Frag) : V → Option Int → Option Int → Hp → VK → Prop := fun x lo hi H Q => rSlL K x lo hi H Q ∨ rSlA K x lo hi H Q ∨ rSlS x lo hi H Q
theorem sl_any : SlR X (rSlAny X.K) := SlR.or sl_list (SlR.or sl_tupA sl_str)
theorem cut_reps {F : Hp} {io : List Addr} {l : List D} {vs : List V} (h : Reps F io l vs) (lo hi : Option Int) : Reps F io (cutL l lo hi) (cutV vs lo hi) := by
  unfold cutL cutV
  rw [← h.length]
  exact (h.drop _).take _
theorem cut_whole {α : Type} {l : List α} {lo hi : Option Int} (h1 : HT.sIx l.length 0 lo = 0) (h2 : HT.sIx l.length l.length hi = l.length) : cutL l lo hi = l := by
  unfold cutL
  rw [h1, h2]
  simp
theorem de_sl {lo hi : Option Expr} {tl th : SO} {p2 : Pos} (ha : DK X w a fa) (hl : DO X w lo tl) (hh : DO X w hi th) : DE X w (.Subscript a (.Slice lo hi none p2) pos) (sSl fa tl th) :=
  PE.imp (pe_slice sl_any ha hl hh) fun s H Q ⟨x, r, m, R, q⟩ => by
    refine rd_bind R q fun d m1 v y H1 R1 p1 st1 q1 => ?_
    refine rd_bind R1 q1 fun l m2 l' z H2 R2 p2 st2 q2 => ?_
    refine rd_bind R2 q2 fun u m3 u' t H3 R3 p3 st3 q3 => ?_
    cases p2
    cases p3
    have pk := (p1.stay R1 st2).stay R2 st3
    cases d with
    | lst ds =>
      obtain ⟨a, vs, rfl, ha, q⟩ := pk.lst R3
      exact .inl ⟨a, vs, rfl, SqL.of ha, Fin.list R3 q3 (cut_reps q _ _)⟩
    | tup ds =>
      obtain ⟨a, vs, rfl, haF, ha, q⟩ := pk.tup R3
      refine .inr (.inl ⟨a, vs, rfl, SqT.of ha, fun hw => ?_, fun hw => Fin.tuple R3 q3 (cut_reps q _ _)⟩)
      rw [← q.length] at hw
      have q3 : Fin PV w t r s H3 Q (.ok (.tup (cutL ds l u)) m3) := q3
      rw [cut_whole hw.1 hw.2] at q3
      exact Fin.here R3 q3 (.tup haF q)
    | str ds =>
      have e := pk.str
      subst e
      obtain ⟨hz, q3⟩ := Fin.ite q3
      refine .inr (.inr ⟨_, rfl, by rw [str_len, ← lim_eq]; exact hz, ?_⟩)
      have e2 : cutS ⟨ds.toArray⟩ l u = ⟨(cutL ds l u).toArray⟩ := by
        unfold cutS cutL
        simp [Str.length]
      rw [e2]
      exact Fin.here R3 q3 (.str _)
    | _ => exact q3.elim

/-! ### calls of built-in names -/
/-- the answer by the arguments that are looked at -/
def CaD (pw : PWd) (w : Wi) (f : List D → Sto → R D) (r : List V → Hp → VK → Prop) : Prop := ∀ (x : Sx pw) (e : Env) (m : Sto) (s : L2.St) (H : Hp) (Q : VK) (ds : List D) (vs : List V), Rel x e m s H → Pks x H ds vs → Fin PV w x e s H Q (f ds m) → r vs H Q
def sCall (f : List D → Sto → R D) (g : SL) : SE := fun r m => bindR (g r m) fun ds m => f ds m
theorem rd_call {r : List V → Hp → VK → Prop} {fd : List D → Sto → R D} (h : CaD pw w fd r) (s : L2.St) (H : Hp) (Q : VK) (q : rd (PV (pw := pw)) w (sCall fd g) s H Q) : tCB r (rd (pw := pw) (fun x H ds vs => Pks x H ds vs) w g) s H Q := by
  obtain ⟨x, e, m, R, q⟩ := q
  refine rd_bind R q fun ds m1 vs y H1 R1 p1 st1 q1 => ?_
  exact h y e m1 s H1 Q ds vs R1 p1 q1
theorem de_callB {x : Str} {id : String} {r : List V → Hp → VK → Prop} {fd : List D → Sto → R D} (hc : CallR X (.builtin id) r) (h : CaD (pwOf X) w fd r) (hg : Gl X x) (hm : X.mg x = none) (hv : bootBuiltins x = some (.builtin id)) (ha : DAk X w (e :: es) g) (hn : x ≠ "__name__" := by decide) (hdb : (x == ("__debug__" : Str)) = false := by decide)
    (he : starEach (e :: es) X.env = (false, eval e X.env) :: starEach es X.env := by rfl) (hpl : (backTo pos (starEach es X.env)).any (·.1) = false := by rfl) : DE X w (.Call (.Name x p) (e :: es) [] pos) (sCall fd g) :=
  PE.imp (pe_callB hc hg hm hv ha hn hdb he hpl) fun s H Q q => rd_call h s H Q q
theorem de_callT {x : Str} {T : String} {r : List V → Hp → VK → Prop} {fd : List D → Sto → R D} (hc : CallR X (.type T) r) (h : CaD (pwOf X) w fd r) (hg : Gl X x) (hm : X.mg x = none) (hv : bootBuiltins x = some (.type T)) (ha : DAk X w (e :: es) g) (hn : x ≠ "__name__" := by decide) (hdb : (x == ("__debug__" : Str)) = false := by decide)
    (he : starEach (e :: es) X.env = (false, eval e X.env) :: starEach es X.env := by rfl) (hpl : (backTo pos (starEach es X.env)).any (·.1) = false := by rfl) : DE X w (.Call (.Name x p) (e :: es) [] pos) (sCall fd g) :=
  PE.imp (pe_callTy hc hg hm hv ha hn hdb he hpl) fun s H Q q => rd_call h s H Q q

/-- an answer that asks ints, makes nothing -/
theorem Pks.one {x : Sx pw} {H : Hp} {d : D} {vs : List V} (h : Pks x H [d] vs) : ∃ v, vs = [v] ∧ Pk x H d v := by
  cases h with
  | cons a t => cases t; exact ⟨_, rfl, a⟩
theorem Pks.two {x : Sx pw} {H : Hp} {d d' : D} {vs : List V} (h : Pks x H [d, d'] vs) : ∃ v v', vs = [v, v'] ∧ Pk x H d v ∧ Pk x H d' v' := by
  cases h with
  | cons a t =>
    cases t with
    | cons b t => cases t; exact ⟨_, _, rfl, a, b⟩
def fLen : List D → Sto → R D
  | [.str z], m => if z.length ≤ LIM then .ok (.int z.length) m else .bad
  | [.lst l], m => .ok (.int l.length) m
  | [.tup l], m => .ok (.int l.length) m
  | _, _ => .bad
theorem ca_len (K : PySem.W.Frag) : CaD pw w fLen (fun xs H Q => ∃ x n, xs = [x] ∧ LenV K x H n ∧ Q (.int n) H) := by
  intro x e m s H Q ds vs R ps h
  unfold fLen at h
  split at h
  · rename_i z
    obtain ⟨v, rfl, pa⟩ := ps.one
    have ea := pa.str
    subst ea
    obtain ⟨hz, h⟩ := Fin.ite h
    exact ⟨_, z.length, rfl, ⟨by rw [str_len, ← lim_eq]; exact hz, (str_len z).symm⟩, Fin.here R h (.int _)⟩
  · rename_i l
    obtain ⟨v, rfl, pa⟩ := ps.one
    obtain ⟨p, vs, rfl, hp, q⟩ := pa.lst R
    exact ⟨_, l.length, rfl, .inl ⟨vs, SqL.of hp, q.length⟩, Fin.here R h (.int _)⟩
  · rename_i l
    obtain ⟨v, rfl, pa⟩ := ps.one
    obtain ⟨p, vs, rfl, _, hp, q⟩ := pa.tup R
    exact ⟨_, l.length, rfl, .inr ⟨vs, SqT.of hp, q.length⟩, Fin.here R h (.int _)⟩
  · exact h.elim
theorem de_len (hg : Gl X "len") (hm : X.mg "len" = none) (ha : DK X w a fa) (hs : starEach [a] X.env = [(false, eval a X.env)] := by rfl) (hpl : (backTo pos (starEach [] X.env)).any (·.1) = false := by rfl) : DE X w (.Call (.Name "len" p) [a] [] pos) (sCall fLen (aCons fa aNil)) :=
  de_callB call_len (ca_len _) hg hm PySem.boot_len (dk_cons ha dk_nil hs) (by decide) (by decide) hs hpl
def fMax : List D → Sto → R D
  | [.int i, .int j], m => .ok (.int (max i j)) m
  | _, _ => .bad
def fMin : List D → Sto → R D
  | [.int i, .int j], m => .ok (.int (min i j)) m
  | _, _ => .bad
theorem ca_max : CaD pw w fMax (fun xs H Q => ∃ i j, xs = [.int i, .int j] ∧ Q (.int (if j > i then j else i)) H) := by
  intro x e m s H Q ds vs R ps h
  unfold fMax at h
  split at h
  · rename_i i j
    obtain ⟨v, v', rfl, pa, pb⟩ := ps.two
    have ea := pa.int; have eb := pb.int
    subst ea eb
    refine ⟨i, j, rfl, ?_⟩
    have e : (if j > i then j else i) = max i j := by
      by_cases hj : j > i
      · rw [if_pos hj]; omega
      · rw [if_neg hj]; omega
    rw [e]
    exact Fin.here R h (.int _)
  · exact h.elim
theorem ca_min : CaD pw w fMin (fun xs H Q => ∃ i j, xs = [.int i, .int j] ∧ Q (.int (if j < i then j else i)) H) := by
  intro x e m s H Q ds vs R ps h
  unfold fMin at h
  split at h
  · rename_i i j
    obtain ⟨v, v', rfl, pa, pb⟩ := ps.two
    have ea := pa.int; have eb := pb.int
    subst ea eb
    refine ⟨i, j, rfl, ?_⟩
    have e : (if j < i then j else i) = min i j := by
      by_cases hj : j < i
      · rw [if_pos hj]; omega
      · rw [if_neg hj]; omega
    rw [e]
    exact Fin.here R h (.int _)
  · exact h.elim
theorem de_max (hc : X.calm = true) (hg : Gl X "max") (hm : X.mg "max" = none) (ha : DK X w a fa) (hb : DK X w b fb) (hs : starEach [a, b] X.env = (false, eval a X.env) :: starEach [b] X.env := by rfl) (hs' : starEach [b] X.env = [(false, eval b X.env)] := by rfl) (hpl : (backTo pos (starEach [b] X.env)).any (·.1) = false := by rfl) :
    DE X w (.Call (.Name "max" p) [a, b] [] pos) (sCall fMax (aCons fa (aCons fb aNil))) :=
  de_callB (call_max2 hc) ca_max hg hm PyProof.Rows.boot_max (dk_cons ha (dk_cons hb dk_nil hs') hs) (by decide) (by decide) hs hpl
theorem de_min (hc : X.calm = true) (hg : Gl X "min") (hm : X.mg "min" = none) (ha : DK X w a fa) (hb : DK X w b fb) (hs : starEach [a, b] X.env = (false, eval a X.env) :: starEach [b] X.env := by rfl) (hs' : starEach [b] X.env = [(false, eval b X.env)] := by rfl) (hpl : (backTo pos (starEach [b] X.env)).any (·.1) = false := by rfl) :
    DE X w (.Call (.Name "min" p) [a, b] [] pos) (sCall fMin (aCons fa (aCons fb aNil))) :=
  de_callB (call_min2 hc) ca_min hg hm PyProof.Rows.boot_min (dk_cons ha (dk_cons hb dk_nil hs') hs) (by decide) (by decide) hs hpl
/-- int(number), int(flag), int(text) -/
def fInt : List D → Sto → R D
  | [.int i], m => .ok (.int i) m
  | [.bl b], m => .ok (.int (if b then 1 else 0)) m
  | [.str z], m => if z.length ≤ 640 then ofO ((PySem.intText? ⟨z.toArray⟩).map D.int) m else .bad
  | _, _ => .bad
def rIntA : List V → Hp → VK → Prop := fun xs H Q => ((∃ i, xs = [.int i] ∧ Q (.int i) H) ∨ ∃ k, xs = [.bl k] ∧ Q (.int (if k then 1 else 0)) H) ∨ ∃ a n, xs = [.str a] ∧ PySem.intText? a = some n ∧ a.length ≤ 640 ∧ Q (.int n) H
theorem ca_int : CaD pw w fInt rIntA := by
  intro x e m s H Q ds vs R ps h
  unfold fInt at h
  split at h
  · obtain ⟨v, rfl, pa⟩ := ps.one
    have ea := pa.int
    subst ea
    exact .inl (.inl ⟨_, rfl, Fin.here R h (.int _)⟩)
  · obtain ⟨v, rfl, pa⟩ := ps.one
    have ea := pa.bl
    subst ea
    exact .inl (.inr ⟨_, rfl, Fin.here R h (.int _)⟩)
  · rename_i z
    obtain ⟨v, rfl, pa⟩ := ps.one
    have ea := pa.str
    subst ea
    obtain ⟨hz, h⟩ := Fin.ite h
    cases k : PySem.intText? ⟨z.toArray⟩ with
    | none =>
      rw [k] at h
      exact h.elim
    | some n =>
      rw [k] at h
      exact .inr ⟨_, n, rfl, k, by rw [str_len]; exact hz, Fin.here R h (.int _)⟩
  · exact h.elim
theorem de_toInt (hg : Gl X "int") (hm : X.mg "int" = none) (ha : DK X w a fa) (hs : starEach [a] X.env = [(false, eval a X.env)] := by rfl) (hpl : (backTo pos (starEach [] X.env)).any (·.1) = false := by rfl) : DE X w (.Call (.Name "int" p) [a] [] pos) (sCall fInt (aCons fa aNil)) :=
  de_callT (CallR.or call_int1 call_int_str) ca_int hg hm PyProof.Rows.boot_int (dk_cons ha dk_nil hs) (by decide) (by decide) hs hpl
/-- str(number), str(text) is told apart -/
def fStr : List D → Sto → R D
  | [.int i], m => if i.natAbs < 10 ^ 500 then .ok (.str ((toString i : Str).cps.toList)) m else .bad
  | _, _ => .bad
/-- list(..), tuple(..) of a list or tuple -/
def fList : List D → Sto → R D
  | [.lst l], m => .ok (.lst l) m
  | [.tup l], m => .ok (.lst l) m
  | _, _ => .bad
def fTuple : List D → Sto → R D
  | [.lst l], m => .ok (.tup l) m
  | [.tup l], m => .ok (.tup l) m
  | _, _ => .bad
theorem ca_list (K : PySem.W.Frag) : CaD pw w fList (fun xs H Q => ∃ p ys, xs = [.ref p] ∧ (SqL K H p ys ∨ SqT K H p ys) ∧ ∀ l, H l = none → Q (.ref l) (upd H l (.lst ys))) := by
  intro x e m s H Q ds vs R ps h
  unfold fList at h
  split at h
  · obtain ⟨v, rfl, pa⟩ := ps.one
    obtain ⟨p, vs, rfl, hp, q⟩ := pa.lst R
    exact ⟨p, vs, rfl, .inl (SqL.of hp), Fin.list R h q⟩
  · obtain ⟨v, rfl, pa⟩ := ps.one
    obtain ⟨p, vs, rfl, _, hp, q⟩ := pa.tup R
    exact ⟨p, vs, rfl, .inr (SqT.of hp), Fin.list R h q⟩
  · exact h.elim
theorem ca_tuple (K : PySem.W.Frag) : CaD pw w fTuple (fun xs H Q => ∃ p ys, xs = [.ref p] ∧ ((SqL K H p ys ∧ ∀ l, H l = none → Q (.ref l) (upd H l (.tup ys))) ∨ (SqT K H p ys ∧ Q (.ref p) H))) := by
  intro x e m s H Q ds vs R ps h
  unfold fTuple at h
  split at h
  · obtain ⟨v, rfl, pa⟩ := ps.one
    obtain ⟨p, vs, rfl, hp, q⟩ := pa.lst R
    exact ⟨p, vs, rfl, .inl ⟨SqL.of hp, Fin.tuple R h q⟩⟩
  · obtain ⟨v, rfl, pa⟩ := ps.one
    obtain ⟨p, vs, rfl, hF, hp, q⟩ := pa.tup R
    exact ⟨p, vs, rfl, .inr ⟨SqT.of hp, Fin.here R h (.tup hF q)⟩⟩
  · exact h.elim
theorem de_list (hg : Gl X "list") (hm : X.mg "list" = none) (ha : DK X w a fa) (hs : starEach [a] X.env = [(false, eval a X.env)] := by rfl) (hpl : (backTo pos (starEach [] X.env)).any (·.1) = false := by rfl) : DE X w (.Call (.Name "list" p) [a] [] pos) (sCall fList (aCons fa aNil)) :=
  de_callT call_list_of (ca_list _) hg hm PyProof.Rows.boot_list (dk_cons ha dk_nil hs) (by decide) (by decide) hs hpl
theorem de_tuple (hg : Gl X "tuple") (hm : X.mg "tuple" = none) (ha : DK X w a fa) (hs : starEach [a] X.env = [(false, eval a X.env)] := by rfl) (hpl : (backTo pos (starEach [] X.env)).any (·.1) = false := by rfl) : DE X w (.Call (.Name "tuple" p) [a] [] pos) (sCall fTuple (aCons fa aNil)) :=
  de_callT call_tuple_of (ca_tuple _) hg hm PyProof.Rows.boot_tuple (dk_cons ha dk_nil hs) (by decide) (by decide) hs hpl
/-- sum of a list of ints; all of a list of truths -/
def intsOf : List D → Option (List Int)
  | [] => some []
  | .int i :: l => (intsOf l).map (i :: ·)
  | _ => none
def blsOf : List D → Option (List Bool)
  | [] => some []
  | .bl i :: l => (blsOf l).map (i :: ·)
  | _ => none
theorem ints_reps {F : Hp} {io : List Addr} : ∀ {l : List D} {vs : List V} {ns : List Int}, Reps F io l vs → intsOf l = some ns → vs = ns.map V.int
  | [], _, _, .nil, e => by
    cases e
    rfl
  | d :: l, _, ns, .cons r t, e => by
    cases d with
    | int i =>
      cases r
      cases k : intsOf l with
      | none =>
        have e : (intsOf l).map (i :: ·) = some ns := e
        rw [k] at e
        cases e
      | some ms =>
        have e : (intsOf l).map (i :: ·) = some ns := e
        rw [k] at e
        cases e
        rw [ints_reps t k]
        rfl
    | _ => cases e
theorem bls_reps {F : Hp} {io : List Addr} : ∀ {l : List D} {vs : List V} {ns : List Bool}, Reps F io l vs → blsOf l = some ns → vs = ns.map V.bl
  | [], _, _, .nil, e => by
    cases e
    rfl
  | d :: l, _, ns, .cons r t, e => by
    cases d with
    | bl i =>
      cases r
      cases k : blsOf l with
      | none =>
        have e : (blsOf l).map (i :: ·) = some ns := e
        rw [k] at e
        cases e
      | some ms =>
        have e : (blsOf l).map (i :: ·) = some ns := e
        rw [k] at e
        cases e
        rw [bls_reps t k]
        rfl
    | _ => cases e
@[simp] theorem intsOf_map (l : List Int) : intsOf (l.map D.int) = some l := by
  induction l with
  | nil => rfl
  | cons i l ih =>
    show (intsOf (l.map D.int)).map (i :: ·) = _
    rw [ih]
    rfl
@[simp] theorem blsOf_map (l : List Bool) : blsOf (l.map D.bl) = some l := by
  induction l with
  | nil => rfl
  | cons i l ih =>
    show (blsOf (l.map D.bl)).map (i :: ·) = _
    rw [ih]
    rfl
def fSum : List D → Sto → R D
  | [.lst l], m => ofO ((intsOf l).map fun ns => D.int ns.sum) m
  | _, _ => .bad
def fAll : List D → Sto → R D
  | [.lst l], m => ofO ((blsOf l).map fun ns => D.bl (ns.all id)) m
  | _, _ => .bad
theorem ca_sum (K : PySem.W.Frag) : CaD pw w fSum (rSum K) := by
  intro x e m s H Q ds vs R ps h
  unfold fSum at h
  split at h
  · rename_i l
    obtain ⟨v, rfl, pa⟩ := ps.one
    obtain ⟨p, vs, rfl, hp, q⟩ := pa.lst R
    cases k : intsOf l with
    | none =>
      rw [k] at h
      exact h.elim
    | some ns =>
      rw [k] at h
      have e := ints_reps q k
      subst e
      exact ⟨p, ns, rfl, SqL.of hp, Fin.here R h (.int _)⟩
  · exact h.elim
theorem ca_all (K : PySem.W.Frag) : CaD pw w fAll (rAll K) := by
  intro x e m s H Q ds vs R ps h
  unfold fAll at h
  split at h
  · rename_i l
    obtain ⟨v, rfl, pa⟩ := ps.one
    obtain ⟨p, vs, rfl, hp, q⟩ := pa.lst R
    cases k : blsOf l with
    | none =>
      rw [k] at h
      exact h.elim
    | some ns =>
      rw [k] at h
      have e := bls_reps q k
      subst e
      exact ⟨p, ns, rfl, SqL.of hp, Fin.here R h (.bl _)⟩
  · exact h.elim
theorem de_sum (hc : X.calm = true) (hg : Gl X "sum") (hm : X.mg "sum" = none) (ha : DK X w a fa) (hs : starEach [a] X.env = [(false, eval a X.env)] := by rfl) (hpl : (backTo pos (starEach [] X.env)).any (·.1) = false := by rfl) : DE X w (.Call (.Name "sum" p) [a] [] pos) (sCall fSum (aCons fa aNil)) :=
  de_callB (cr_sum hc) (ca_sum _) hg hm PyProof.Rows.boot_sum (dk_cons ha dk_nil hs) (by decide) (by decide) hs hpl
theorem de_all (hc : X.calm = true) (hg : Gl X "all") (hm : X.mg "all" = none) (ha : DK X w a fa) (hs : starEach [a] X.env = [(false, eval a X.env)] := by rfl) (hpl : (backTo pos (starEach [] X.env)).any (·.1) = false := by rfl) : DE X w (.Call (.Name "all" p) [a] [] pos) (sCall fAll (aCons fa aNil)) :=
  de_callB (cr_all hc) (ca_all _) hg hm PyProof.Rows.boot_all (dk_cons ha dk_nil hs) (by decide) (by decide) hs hpl
end
end Dl
set_option autoImplicit true
/-! The data layer: statements. -/
namespace Dl
open PySem PySem.Spec PyProof.Rows L2 TL

/-- how a statement ends -/
inductive Fl where
  | nx (r : Env) (m : Sto)
  | rt (d : D) (m : Sto)
  | bk (r : Env) (m : Sto)
  | ct (r : Env) (m : Sto)
  | exc (c : Nat) (v : D) (r : Env) (m : Sto)
  | bad
abbrev SS := Env → Sto → Fl
def bindS {α : Type} (e : Env) (r : R α) (f : α → Sto → Fl) : Fl := match r with
  | .ok a m => f a m
  | .exc c v m => .exc c v e m
  | .bad => .bad
@[simp] theorem bindS_ok {α : Type} (e : Env) (a : α) (m : Sto) (f : α → Sto → Fl) : bindS e (.ok a m) f = f a m := rfl
@[simp] theorem bindS_exc {α : Type} (e : Env) (c : Nat) (v : D) (m : Sto) (f : α → Sto → Fl) : bindS e (.exc c v m) f = .exc c v e m := rfl
@[simp] theorem bindS_bad {α : Type} (e : Env) (f : α → Sto → Fl) : bindS e (.bad : R α) f = .bad := rfl
def FinS (w : Wi) (x : Sx pw) (H : Hp) (E : Ends) : Fl → Prop
  | .nx r m => ∀ s y H', Rel y r m s H' → StS x H y H' → E.nx s H'
  | .rt d m => ∀ v y H', Rel y [] m [] H' → Rep y.F y.io d v → StS x H y H' → E.rt v H'
  | .bk r m => ∀ s y H', Rel y r m s H' → StS x H y H' → E.bk s H'
  | .ct r m => ∀ s y H', Rel y r m s H' → StS x H y H' → E.ct s H'
  | .exc c v r m => ∀ cls d s y H', Rel y r m s H' → ExAt w c v cls d y H' → StS x H y H' → w.W cls d s H'
  | .bad => False
def rdS (pw : PWd) (w : Wi) (f : SS) : TS := fun E s H => ∃ (x : Sx pw) (r : Env) (m : Sto), Rel x r m s H ∧ FinS w x H E (f r m)
abbrev DS (X : Cx) (w : Wi) (st : Stmt) (f : SS) : Prop := PS X st (rdS (pwOf X) w f)
abbrev DSs (X : Cx) (w : Wi) (st : List Stmt) (f : SS) : Prop := PSs X st (rdS (pwOf X) w f)
section
variable {x y : Sx pw} {r : Env} {m : Sto} {s : L2.St} {H H' : Hp} {w : Wi} {E : Ends}
theorem FinS.shift {f : Fl} (st : StS x H y H') (h : FinS w x H E f) : FinS w y H' E f := by
  cases f with
  | nx r m => exact fun s z H2 R t => h s z H2 R (st.trans t)
  | rt d m => exact fun s z H2 R p t => h s z H2 R p (st.trans t)
  | bk r m => exact fun s z H2 R t => h s z H2 R (st.trans t)
  | ct r m => exact fun s z H2 R t => h s z H2 R (st.trans t)
  | exc c v r m => exact fun cls d s z H2 R p t => h cls d s z H2 R p (st.trans t)
  | bad => exact h
theorem FinS.ite {f : Fl} {c : Prop} [Decidable c] (h : FinS w x H E (if c then f else .bad)) : c ∧ FinS w x H E f := by
  by_cases hc : c
  · rw [if_pos hc] at h
    exact ⟨hc, h⟩
  · rw [if_neg hc] at h
    exact h.elim
/-- an expression within a statement -/
theorem rd_bindS {α β : Type} {P : PP pw α β} {f : Sem1 α} {g : α → Sto → Fl} {K : β → Hp → Prop} (R : Rel x r m s H) (h : FinS w x H E (bindS r (f r m) g))
    (k : ∀ a m' b y H', Rel y r m' s H' → P y H' a b → StE x H y H' → FinS w y H' E (g a m') → K b H') : rd P w f s H K := by
  refine ⟨x, r, m, R, ?_⟩
  cases e : f r m with
  | ok a m' =>
    rw [e] at h
    exact fun b y H' R' p st => k a m' b y H' R' p st (FinS.shift st.toS h)
  | exc c v m' =>
    rw [e] at h
    exact fun cls d y H' R' p st => h cls d s y H' R' p st.toS
  | bad =>
    rw [e] at h
    exact h
theorem FinS.here {r' : Env} {m' : Sto} (R : Rel x r' m' s H) (h : FinS w x H E (.nx r' m')) : E.nx s H := h s x H R .refl
/-- a state whose slots are left -/
theorem Rel.leave (R : Rel x r m s H) : Rel (x.w1 ([])) [] m [] H :=
  ⟨R.sub, .nil, R.sto, (List.nodup_append.mp R.nd).2.1, fun a ha => R.nF a (List.mem_append_right _ ha)⟩
theorem StS.leave (R : Rel x r m s H) : StS x H (x.w1 ([])) H := ⟨⟨.refl _, .refl _, fun _ _ h _ => h, fun _ h => h, fun b h1 h2 => absurd h1 h2, fun b h => .inl h⟩, fun b h => by cases h⟩
/-- a slot is forgotten -/
theorem Rel.forget (R : Rel x r m s H) (i : Nat) : ∃ y : Sx pw, Rel y (r.set i none) m s H ∧ StS x H y H := by
  by_cases hi : i < r.length
  · obtain ⟨A0, A', p, _, _, A2, p2, n⟩ := R.vars.at hi
    have sub : ∀ b ∈ A2, b ∈ x.A1 := fun b hb => p.mem_iff.mpr (List.mem_append_right _ (p2.mem_iff.mp hb))
    have nd1 : (A0 ++ A').Nodup := (p.nodup_iff).mp (List.nodup_append.mp R.nd).1
    refine ⟨(x.w1 (A2)), ⟨R.sub, ?_, R.sto, ?_, fun a ha => ?_⟩, ⟨⟨.refl _, .refl _, fun _ _ h _ => h, fun _ h => h, fun b h1 h2 => absurd h1 h2, fun b h => .inl h⟩, fun b h => .inl (sub b h)⟩⟩
    · have q := n (s[i]?.getD none)
      have e : s.set i (s[i]?.getD none) = s := by
        refine List.ext_getElem? fun j => ?_
        by_cases hj : j = i
        · subst hj
          have hl : j < s.length := by rw [← R.vars.length]; exact hi
          rw [List.getElem?_set_self hl, List.getElem?_eq_getElem hl]
          rfl
        · rw [List.getElem?_set_ne (Ne.symm hj)]
      rw [e] at q
      exact q
    · refine List.nodup_append.mpr ⟨(p2.nodup_iff).mpr (List.nodup_append.mp nd1).2.1, (List.nodup_append.mp R.nd).2.1, fun a ha b hb => (List.nodup_append.mp R.nd).2.2 a (sub a ha) b hb⟩
    · rcases List.mem_append.mp ha with q | q
      · exact R.nF a (List.mem_append_left _ (sub a q))
      · exact R.nF a (List.mem_append_right _ q)
  · rw [List.set_eq_of_length_le (Nat.le_of_not_lt hi)]
    exact ⟨x, R, .refl⟩
/-- a cell is put into a slot -/
theorem Rel.put {c : Cell} {v : V} {A : List Addr} (R : Rel x r m s H) (i : Nat) (hc : CellR pw x.F x.io H c v A) (hA : ∀ a ∈ A, x.F a = none ∧ a ∉ x.A1 ++ x.A2) :
    ∃ y : Sx pw, Rel y (r.set i (some c)) m (s.set i (some v)) H ∧ y.F = x.F ∧ y.io = x.io ∧ y.A2 = x.A2 ∧ ∀ b ∈ y.A1, b ∈ x.A1 ∨ b ∈ A := by
  by_cases hi : i < r.length
  · obtain ⟨A0, A', p, _, wr, _⟩ := R.vars.at hi
    obtain ⟨A2, p2, q⟩ := wr (F' := x.F) (io' := x.io) (H' := H) (.refl _) (.refl _) (fun b _ o h => h) hc
    have sub : ∀ b ∈ A', b ∈ x.A1 := fun b hb => p.mem_iff.mpr (List.mem_append_right _ hb)
    have nd1 : (A0 ++ A').Nodup := (p.nodup_iff).mp (List.nodup_append.mp R.nd).1
    have ndA : A.Nodup := by
      cases hc with
      | val _ => exact List.nodup_nil
      | lst _ _ => simp
      | dct _ _ => simp
    have mem : ∀ b ∈ A2, b ∈ A ∨ b ∈ A' := fun b hb => List.mem_append.mp (p2.mem_iff.mp hb)
    refine ⟨(x.w1 (A2)), ⟨R.sub, q, R.sto, ?_, fun a ha => ?_⟩, rfl, rfl, rfl, fun b hb => ?_⟩
    · refine List.nodup_append.mpr ⟨(p2.nodup_iff).mpr (List.nodup_append.mpr ⟨ndA, (List.nodup_append.mp nd1).2.1, fun a ha b hb e => ?_⟩), (List.nodup_append.mp R.nd).2.1, fun a ha b hb e => ?_⟩
      · subst e
        exact (hA a ha).2 (List.mem_append_left _ (sub a hb))
      · subst e
        rcases mem a ha with z | z
        · exact (hA a z).2 (List.mem_append_right _ hb)
        · exact (List.nodup_append.mp R.nd).2.2 a (sub a z) a hb rfl
    · rcases List.mem_append.mp ha with z | z
      · rcases mem a z with z | z
        · exact (hA a z).1
        · exact R.nF a (List.mem_append_left _ (sub a z))
      · exact R.nF a (List.mem_append_right _ z)
    · rcases mem b hb with z | z
      · exact .inr z
      · exact .inl (sub b z)
  · rw [List.set_eq_of_length_le (Nat.le_of_not_lt hi), List.set_eq_of_length_le (by rw [← R.vars.length]; exact Nat.le_of_not_lt hi)]
    exact ⟨x, R, rfl, rfl, rfl, fun b hb => .inl hb⟩
theorem Rel.putV {d : D} {v : V} (R : Rel x r m s H) (i : Nat) (h : Rep x.F x.io d v) : ∃ y : Sx pw, Rel y (r.set i (some (.val d))) m (s.set i (some v)) H ∧ y.F = x.F ∧ y.io = x.io ∧ y.A2 = x.A2 ∧ ∀ b ∈ y.A1, b ∈ x.A1 := by
  obtain ⟨y, R', e1, e2, e3, e4⟩ := R.put i (.val h) (fun a ha => by cases ha)
  exact ⟨y, R', e1, e2, e3, fun b hb => (e4 b hb).elim id fun z => by cases z⟩
theorem StS.same (h1 : y.F = x.F) (h2 : y.io = x.io) (h3 : y.A2 = x.A2) (h4 : ∀ b ∈ y.A1, b ∈ x.A1 ∨ H b = none) : StS x H y H := by
  refine ⟨⟨by rw [h1]; exact .refl _, by rw [h2]; exact .refl _, fun _ _ h _ => h, fun _ h => h, fun b e1 e2 => ?_, fun b h => .inl (by rw [← h3]; exact h)⟩, fun b h => ?_⟩
  · rw [h1] at e2
    exact absurd e1 e2
  · rcases h4 b h with z | z
    · exact .inl z
    · exact .inr (.inr z)
/-- a slot's own list will stand from now on -/
theorem Rel.freezeG {c : Cell} {d : D} (R : Rel x r m s H) {i : Nat} (h : r[i]? = some (some c)) (inv : ∀ v A, CellR pw x.F x.io H c v A → ∃ a o, A = [a] ∧ v = .ref a ∧ H a = some o ∧ (x.F a = none → Rep (upd x.F a o) x.io d (.ref a))) : ∃ y : Sx pw, Rel y (r.set i (some (.val d))) m s H ∧ StS x H y H := by
  have hi : i < r.length := (List.getElem?_eq_some_iff.mp h).1
  obtain ⟨A0, A', p, g, wr, _⟩ := R.vars.at hi
  obtain ⟨v, ev, hc⟩ := g _ h
  obtain ⟨a, o', rfl, rfl, ha, rp⟩ := inv _ _ hc
  have haA : a ∈ x.A1 := p.mem_iff.mpr (List.mem_append_left _ (by simp))
  have haF : x.F a = none := R.nF a (List.mem_append_left _ haA)
  have hs : Sub x.F (upd x.F a o') := fun b q e => by rw [upd_ne (ne_of_none e haF)]; exact e
  have nd1 : ([a] ++ A').Nodup := (p.nodup_iff).mp (List.nodup_append.mp R.nd).1
  have naA : ∀ b ∈ A', b ≠ a := fun b hb e => by
    subst e
    exact (List.nodup_append.mp nd1).2.2 b (by simp) b hb rfl
  obtain ⟨A2, p2, q⟩ := wr (F' := upd x.F a o') (io' := x.io) (H' := H) hs (.refl _) (fun b _ o h => h) (.val (rp haF))
  have mem : ∀ b ∈ A2, b ∈ A' := fun b hb => by simpa using p2.mem_iff.mp hb
  have sub : ∀ b ∈ A', b ∈ x.A1 := fun b hb => p.mem_iff.mpr (List.mem_append_right _ hb)
  have es : s.set i (some (.ref a)) = s := by
    refine List.ext_getElem? fun j => ?_
    by_cases hj : j = i
    · subst hj
      have hl : j < s.length := by rw [← R.vars.length]; exact hi
      rw [List.getElem?_set_self hl, ev]
    · rw [List.getElem?_set_ne (Ne.symm hj)]
  rw [es] at q
  refine ⟨(x.wF1 (upd x.F a o') (A2)), ⟨fun b o e => ?_, q, R.sto.mono hs (.refl _) (fun b _ o h => h), ?_, fun b hb => ?_⟩, ⟨⟨hs, .refl _, fun _ _ h _ => h, fun _ h => h, fun b h1 h2 => ?_, fun b h => .inl h⟩, fun b h => .inl (sub b (mem b h))⟩⟩
  · have e : upd x.F a o' b = some o := e
    by_cases hb : b = a
    · subst hb
      rw [upd_same] at e
      cases e
      exact ha
    · rw [upd_ne hb] at e
      exact R.sub _ _ e
  · refine List.nodup_append.mpr ⟨(p2.nodup_iff).mpr (by simpa using (List.nodup_append.mp nd1).2.1), (List.nodup_append.mp R.nd).2.1, fun c hc b hb => (List.nodup_append.mp R.nd).2.2 c (sub c (mem c hc)) b hb⟩
  · have hba : b ≠ a := by
      rcases List.mem_append.mp hb with z | z
      · exact naA b (mem b z)
      · exact fun e => (List.nodup_append.mp R.nd).2.2 a haA b z e.symm
    show upd x.F a o' b = none
    rw [upd_ne hba]
    rcases List.mem_append.mp hb with z | z
    · exact R.nF b (List.mem_append_left _ (sub b (mem b z)))
    · exact R.nF b (List.mem_append_right _ z)
  · by_cases hb : b = a
    · subst hb
      exact .inr (List.mem_append_left _ haA)
    · have h2 : upd x.F a o' b ≠ none := h2
      rw [upd_ne hb] at h2
      exact absurd h1 h2
theorem Rel.freeze {l : List D} (R : Rel x r m s H) {i : Nat} (h : r[i]? = some (some (.lst l))) : ∃ y : Sx pw, Rel y (r.set i (some (.val (.lst l)))) m s H ∧ StS x H y H :=
  R.freezeG h fun v A hc => by
    cases hc with
    | @lst a ds vs ha rp => exact ⟨a, _, rfl, rfl, ha, fun n => .lst upd_same (rp.mono (fun b q e => by rw [upd_ne (ne_of_none e n)]; exact e) (.refl _))⟩
theorem Rel.freezeD {ks vs : List D} (R : Rel x r m s H) {i : Nat} (h : r[i]? = some (some (.dct ks vs))) : ∃ y : Sx pw, Rel y (r.set i (some (.val (.dct ks vs)))) m s H ∧ StS x H y H :=
  R.freezeG h fun v A hc => by
    cases hc with
    | @dct a ep ks vs xs ha rp => exact ⟨a, _, rfl, rfl, ha, fun n => .dct upd_same (rp.mono (fun b q e => by rw [upd_ne (ne_of_none e n)]; exact e) (.refl _))⟩
/-- a slot's own list is changed -/
theorem Rel.ownG {c : Cell} {Z : Addr → Prop} (R : Rel x r m s H) {i : Nat} (h : r[i]? = some (some c)) (inv : ∀ v A, CellR pw x.F x.io H c v A → ∃ a, A = [a] ∧ v = .ref a ∧ Z a) : ∃ a, s[i]? = some (some (.ref a)) ∧ a ∈ x.A1 ∧ Z a ∧
    ∀ (o' : HO) (c' : Cell), CellR pw x.F x.io (upd H a o') c' (.ref a) [a] → ∃ y : Sx pw, Rel y (r.set i (some c')) m s (upd H a o') ∧ StS x H y (upd H a o') := by
  have hi : i < r.length := (List.getElem?_eq_some_iff.mp h).1
  obtain ⟨A0, A', p, g, wr, _⟩ := R.vars.at hi
  obtain ⟨v, ev, hc⟩ := g _ h
  obtain ⟨a, rfl, rfl, hz⟩ := inv _ _ hc
  have haA : a ∈ x.A1 := p.mem_iff.mpr (List.mem_append_left _ (by simp))
  refine ⟨a, ev, haA, hz, fun o' c' rp' => ?_⟩
  have haF : x.F a = none := R.nF a (List.mem_append_left _ haA)
  have nd1 : ([a] ++ A').Nodup := (p.nodup_iff).mp (List.nodup_append.mp R.nd).1
  have naA : ∀ b ∈ A', b ≠ a := fun b hb e => by
    subst e
    exact (List.nodup_append.mp nd1).2.2 b (by simp) b hb rfl
  have na2 : ∀ b ∈ x.A2, b ≠ a := fun b hb e => (List.nodup_append.mp R.nd).2.2 a haA b hb e.symm
  obtain ⟨A2, p2, q⟩ := wr (F' := x.F) (io' := x.io) (H' := upd H a o') (.refl _) (.refl _) (fun b hb o h => by rw [upd_ne (naA b hb)]; exact h) rp'
  have mem : ∀ b ∈ A2, b = a ∨ b ∈ A' := fun b hb => by simpa using p2.mem_iff.mp hb
  have sub : ∀ b ∈ A', b ∈ x.A1 := fun b hb => p.mem_iff.mpr (List.mem_append_right _ hb)
  have sub2 : ∀ b ∈ A2, b ∈ x.A1 := fun b hb => (mem b hb).elim (fun e => by rw [e]; exact haA) (sub b)
  have es : s.set i (some (.ref a)) = s := by
    refine List.ext_getElem? fun j => ?_
    by_cases hj : j = i
    · subst hj
      have hl : j < s.length := by rw [← R.vars.length]; exact hi
      rw [List.getElem?_set_self hl, ev]
    · rw [List.getElem?_set_ne (Ne.symm hj)]
  rw [es] at q
  refine ⟨(x.w1 (A2)), ⟨fun b o e => ?_, q, R.sto.mono (.refl _) (.refl _) (fun b hb o h => by rw [upd_ne (na2 b hb)]; exact h), ?_, fun b hb => ?_⟩, ⟨⟨.refl _, .refl _, fun b o h n => ?_, fun b h => ?_, fun b h1 h2 => absurd h1 h2, fun b h => .inl h⟩, fun b h => .inl (sub2 b h)⟩⟩
  · rw [upd_ne (ne_of_none (H := x.F) e haF)]
    exact R.sub _ _ e
  · refine List.nodup_append.mpr ⟨(p2.nodup_iff).mpr nd1, (List.nodup_append.mp R.nd).2.1, fun c hc b hb => (List.nodup_append.mp R.nd).2.2 c (sub2 c hc) b hb⟩
  · rcases List.mem_append.mp hb with z | z
    · exact R.nF b (List.mem_append_left _ (sub2 b z))
    · exact R.nF b (List.mem_append_right _ z)
  · have hb : b ≠ a := fun e => n (by rw [e]; exact List.mem_append_left _ haA)
    rw [upd_ne hb]
    exact h
  · by_cases hb : b = a
    · subst hb
      rw [upd_same] at h
      cases h
    · rw [upd_ne hb] at h
      exact h
theorem Rel.own {l l' : List D} (R : Rel x r m s H) {i : Nat} (h : r[i]? = some (some (.lst l))) : ∃ a vs, s[i]? = some (some (.ref a)) ∧ a ∈ x.A1 ∧ H a = some (.lst vs) ∧ Reps x.F x.io l vs ∧
    ∀ vs', Reps x.F x.io l' vs' → ∃ y : Sx pw, Rel y (r.set i (some (.lst l'))) m s (upd H a (.lst vs')) ∧ StS x H y (upd H a (.lst vs')) := by
  obtain ⟨a, e1, e2, ⟨vs, e3, e4⟩, up⟩ := R.ownG (Z := fun a => ∃ vs, H a = some (.lst vs) ∧ Reps x.F x.io l vs) h fun v A hc => by
    cases hc with
    | @lst a ds vs ha rp => exact ⟨a, rfl, rfl, vs, ha, rp⟩
  exact ⟨a, vs, e1, e2, e3, e4, fun vs' q => up _ _ (.lst upd_same q)⟩
theorem Rel.ownD {ks vs : List D} (R : Rel x r m s H) {i : Nat} (h : r[i]? = some (some (.dct ks vs))) : ∃ a ep xs, s[i]? = some (some (.ref a)) ∧ a ∈ x.A1 ∧ H a = some (dN pw a xs ep) ∧ DPairs x.F x.io ks vs xs ∧
    ∀ ks' vs' xs' ep', DPairs x.F x.io ks' vs' xs' → ∃ y : Sx pw, Rel y (r.set i (some (.dct ks' vs'))) m s (upd H a (dN pw a xs' ep')) ∧ StS x H y (upd H a (dN pw a xs' ep')) := by
  obtain ⟨a, e1, e2, ⟨ep, xs, e3, e4⟩, up⟩ := R.ownG (Z := fun a => ∃ ep xs, H a = some (dN pw a xs ep) ∧ DPairs x.F x.io ks vs xs) h fun v A hc => by
    cases hc with
    | @dct a ep ks vs xs ha rp => exact ⟨a, rfl, rfl, ep, xs, ha, rp⟩
  exact ⟨a, ep, xs, e1, e2, e3, e4, fun ks' vs' xs' ep' q => up _ _ (.dct upd_same q)⟩
end

/-! ### blocks -/
def sSkip : SS := fun r m => .nx r m
def sSeq (f g : SS) : SS := fun r m => match f r m with
  | .nx r m => g r m
  | o => o
def sForget (i : Nat) (g : SS) : SS := fun r m => g (r.set i none) m
def sFreeze (i : Nat) (g : SS) : SS := fun r m => match r[i]? with
  | some (some (.lst l)) => g (r.set i (some (.val (.lst l)))) m
  | some (some (.dct ks vs)) => g (r.set i (some (.val (.dct ks vs)))) m
  | _ => .bad
section
variable {X : Cx} {w : Wi} {st : Stmt} {rest sts : List Stmt} {f g : SS} {pos : Pos} {e : Expr} {fe : SE}
theorem dss_nil : DSs X w [] sSkip := PSs.imp pss_nil fun E s H ⟨x, r, m, R, q⟩ => FinS.here R q
theorem rd_seq (E : Ends) (s : L2.St) (H : Hp) (q : rdS pw w (sSeq f g) E s H) : rdS pw w f { E with nx := rdS pw w g E } s H := by
  obtain ⟨x, r, m, R, q⟩ := q
  refine ⟨x, r, m, R, ?_⟩
  unfold sSeq at q
  cases k : f r m with
  | nx r' m' =>
    rw [k] at q
    exact fun s' y H' R' st => ⟨y, r', m', R', FinS.shift st q⟩
  | rt d m' => rw [k] at q; exact q
  | bk r' m' => rw [k] at q; exact q
  | ct r' m' => rw [k] at q; exact q
  | exc c v r' m' => rw [k] at q; exact q
  | bad => rw [k] at q; exact q
theorem dss_cons (h1 : DS X w st f) (h2 : DSs X w rest g) : DSs X w (st :: rest) (sSeq f g) := PSs.imp (pss_cons h1 h2) rd_seq
theorem dss_one (h1 : DS X w st f) : DSs X w [st] f := pss_one h1
theorem dss_forget (i : Nat) (h : DSs X w sts g) : DSs X w sts (sForget i g) := PSs.imp h fun E s H ⟨x, r, m, R, q⟩ => by
  obtain ⟨y, R', st⟩ := R.forget i
  exact ⟨y, _, m, R', FinS.shift st q⟩
theorem dss_freeze (i : Nat) (h : DSs X w sts g) : DSs X w sts (sFreeze i g) := PSs.imp h fun E s H ⟨x, r, m, R, q⟩ => by
  unfold sFreeze at q
  split at q
  · rename_i l hl
    obtain ⟨y, R', st⟩ := R.freeze hl
    exact ⟨y, _, m, R', FinS.shift st q⟩
  · rename_i ks vs hl
    obtain ⟨y, R', st⟩ := R.freezeD hl
    exact ⟨y, _, m, R', FinS.shift st q⟩
  · exact q.elim
theorem dss_never : DSs X w sts (fun _ _ => .bad) := PSs.imp pss_never fun E s H ⟨x, r, m, R, q⟩ => q.elim
theorem ds_never : DS X w st (fun _ _ => .bad) := PS.imp ps_never fun E s H ⟨x, r, m, R, q⟩ => q.elim
theorem ds_doc {x : Str} {j : Nat} {p : Pos} : DS X w (.Expr (.Constant (.str x) j p) pos) sSkip := PS.imp ps_doc fun E s H ⟨x, r, m, R, q⟩ => FinS.here R q
theorem ds_pass : DS X w (.Pass pos) sSkip := PS.imp ps_pass fun E s H ⟨x, r, m, R, q⟩ => FinS.here R q
theorem ds_break : DS X w (.Break pos) (fun r m => .bk r m) := PS.imp ps_break fun E s H ⟨x, r, m, R, q⟩ => q s x H R .refl
theorem ds_continue : DS X w (.Continue pos) (fun r m => .ct r m) := PS.imp ps_continue fun E s H ⟨x, r, m, R, q⟩ => q s x H R .refl
/-! ### return, expressions, if -/
def sRet (f : SE) : SS := fun r m => bindS r (f r m) fun d m => .rt d m
def sExpr (f : SE) : SS := fun r m => bindS r (f r m) fun _ m => .nx r m
theorem ds_ret (h : DE X w e fe) : DS X w (.Return (some e) pos) (sRet fe) := PS.imp (ps_ret h) fun E s H ⟨x, r, m, R, q⟩ => by
  refine rd_bindS R q fun d m1 v y H1 R1 p1 st1 q1 => ?_
  exact q1 v (y.w1 ([])) H1 R1.leave p1 (StS.leave R1)
theorem ds_retN : DS X w (.Return none pos) (fun _ m => .rt .non m) := PS.imp ps_retN fun E s H ⟨x, r, m, R, q⟩ => q .non (x.w1 ([])) H R.leave .non (StS.leave R)
theorem ds_expr (h : DE X w e fe) (hs : swapsWith e none pos.line X.env = pure false := by rfl) : DS X w (.Expr e pos) (sExpr fe) := PS.imp (ps_expr h hs) fun E s H ⟨x, r, m, R, q⟩ => by
  refine rd_bindS R q fun d m1 v y H1 R1 p1 st1 q1 => ?_
  exact FinS.here R1 q1
def sIfS (t : SB) (f g : SS) : SS := fun r m => bindS r (t r m) fun b m => if b = true then f r m else g r m
theorem ds_if {c : Expr} {a b : List Stmt} {t : SB} (hc : DT X w c t) (ha : DSs X w a f) (hb : DSs X w b g) : DS X w (.If c a b pos) (sIfS t f g) := PS.imp (ps_if hc ha hb) fun E s H ⟨x, r, m, R, q⟩ => by
  refine rd_bindS R q fun k m1 v y H1 R1 p1 st1 q1 => ?_
  cases p1
  cases k with
  | true =>
    rw [if_pos rfl] at q1 ⊢
    exact ⟨y, r, m1, R1, q1⟩
  | false =>
    rw [if_neg Bool.false_ne_true] at q1 ⊢
    exact ⟨y, r, m1, R1, q1⟩
end

/-! ### cells: what a name is given -/
abbrev SCe := Sem1 Cell
def FinC (w : Wi) (x : Sx pw) (r : Env) (s : L2.St) (H : Hp) (Q : VK) : R Cell → Prop
  | .ok c m => ∀ v y H' A, Rel y r m s H' → CellR pw y.F y.io H' c v A → (∀ a ∈ A, y.F a = none ∧ a ∉ y.A1 ++ y.A2 ∧ H a = none) → StE x H y H' → Q v H'
  | .exc c v m => ∀ cls d y H', Rel y r m s H' → ExAt w c v cls d y H' → StE x H y H' → w.W cls d s H'
  | .bad => False
def rdC (pw : PWd) (w : Wi) (f : SCe) : TE := fun s H Q => ∃ (x : Sx pw) (r : Env) (m : Sto), Rel x r m s H ∧ FinC w x r s H Q (f r m)
abbrev DC (X : Cx) (w : Wi) (e : Expr) (f : SCe) : Prop := PE X e (rdC (pwOf X) w f)
def cV (f : SE) : SCe := fun r m => bindR (f r m) fun d m => .ok (.val d) m
def cL (g : SL) : SCe := fun r m => bindR (g r m) fun ds m => if ds.length ≤ LIM then .ok (.lst ds) m else .bad
section
variable {x y : Sx pw} {r : Env} {m : Sto} {s : L2.St} {H H' : Hp} {w : Wi} {E : Ends} {X : Cx} {e : Expr} {es : List Expr} {pos : Pos} {fe : SE} {g : SL}
theorem FinC.shift {Q : VK} {a : R Cell} (st : StE x H y H') (h : FinC w x r s H Q a) : FinC w y r s H' Q a := by
  cases a with
  | ok c m => exact fun v z H2 A R p n t => h v z H2 A R p (fun a ha => ⟨(n a ha).1, (n a ha).2.1, st.st.there a (n a ha).2.2⟩) (st.trans t)
  | exc c v m => exact fun cls d z H2 R p t => h cls d z H2 R p (st.trans t)
  | bad => exact h
theorem dc_val (h : DE X w e fe) : DC X w e (cV fe) := PE.imp h fun s H Q ⟨x, r, m, R, q⟩ => by
  refine ⟨x, r, m, R, ?_⟩
  unfold cV at q
  cases k : fe r m with
  | ok d m' =>
    rw [k] at q
    exact fun v y H' R' p st => q v y H' [] R' (.val p) (fun a ha => by cases ha) st
  | exc c v m' =>
    rw [k] at q
    exact q
  | bad =>
    rw [k] at q
    exact q
theorem dc_own (h : DA X w es g) : DC X w (.List es pos) (cL g) := PE.imp (pe_lst h) fun s H Q ⟨x, r, m, R, q⟩ => by
  show rd PL w g s H _
  refine ⟨x, r, m, R, ?_⟩
  unfold cL at q
  cases k : g r m with
  | ok ds m' =>
    rw [k] at q
    intro vs y H' R' p st
    have q : FinC w x r s H Q (if ds.length ≤ LIM then .ok (.lst ds) m' else .bad) := q
    by_cases hz : ds.length ≤ LIM
    · rw [if_pos hz] at q
      refine ⟨by rw [← Reps.length p, ← lim_eq]; exact hz, fun a ha => ?_⟩
      have haF : y.F a = none := by
        cases e : y.F a with
        | none => rfl
        | some o => rw [R'.sub _ _ e] at ha; cases ha
      have R2 : Rel y r m' s (upd H' a (.lst vs)) := ⟨fun b o e => by rw [upd_ne (ne_of_none (R'.sub _ _ e) ha)]; exact R'.sub _ _ e, R'.vars.mono (.refl _) (.refl _) fun b _ o e => by rw [upd_ne (ne_of_none e ha)]; exact e,
        R'.sto.mono (.refl _) (.refl _) fun b _ o e => by rw [upd_ne (ne_of_none e ha)]; exact e, R'.nd, R'.nF⟩
      refine q (.ref a) y (upd H' a (.lst vs)) [a] R2 (.lst upd_same p) (fun b hb => ?_) (st.trans ⟨⟨.refl _, .refl _, fun b o e _ => by rw [upd_ne (ne_of_none e ha)]; exact e, fun b e => ?_, fun b h1 h2 => absurd h1 h2, fun b h => .inl h⟩, rfl⟩)
      · have e := List.mem_singleton.mp hb
        subst e
        exact ⟨haF, fun z => R'.there b z ha, st.st.there b ha⟩
      · by_cases hb : b = a
        · subst hb
          exact ha
        · rw [upd_ne hb] at e
          exact e
    · rw [if_neg hz] at q
      exact q.elim
  | exc c v m' =>
    rw [k] at q
    exact q
  | bad =>
    rw [k] at q
    exact q
/-- a cell within a statement -/
theorem rdC_bindS {f : SCe} {k : Cell → Sto → Fl} {K : VK} (R : Rel x r m s H) (h : FinS w x H E (bindS r (f r m) k))
    (kk : ∀ c m' v y H' A, Rel y r m' s H' → CellR pw y.F y.io H' c v A → (∀ a ∈ A, y.F a = none ∧ a ∉ y.A1 ++ y.A2 ∧ H a = none) → StE x H y H' → FinS w x H E (k c m') → K v H') : rdC pw w f s H K := by
  refine ⟨x, r, m, R, ?_⟩
  cases e : f r m with
  | ok a m' =>
    rw [e] at h
    exact fun v y H' A R' p n st => kk a m' v y H' A R' p n st h
  | exc c v m' =>
    rw [e] at h
    exact fun cls d y H' R' p st => h cls d s y H' R' p st.toS
  | bad =>
    rw [e] at h
    exact h
theorem CellR.stay {c : Cell} {v : V} {A : List Addr} (h : CellR pw x.F x.io H c v A) (hA : ∀ a ∈ A, x.F a = none ∧ a ∉ x.A1 ++ x.A2) (st : StE x H y H') : CellR pw y.F y.io H' c v A ∧ ∀ a ∈ A, y.F a = none ∧ a ∉ y.A1 ++ y.A2 := by
  have no : ∀ a ∈ A, a ∉ x.A2 := fun a ha z => (hA a ha).2 (List.mem_append_right _ z)
  refine ⟨h.mono st.st.F st.st.io fun b hb o e => st.st.keep b o e (no b hb), fun a ha => ⟨?_, fun z => ?_⟩⟩
  · cases e : y.F a with
    | none => rfl
    | some o =>
      rcases st.st.newF a (hA a ha).1 (by rw [e]; exact fun z => by cases z) with z | z
      · exact absurd z (h.there a ha)
      · exact absurd z (no a ha)
  · rcases List.mem_append.mp z with z | z
    · rw [st.a1] at z
      exact (hA a ha).2 (List.mem_append_left _ z)
    · rcases st.st.newA a z with z | z
      · exact no a ha z
      · exact h.there a ha z
theorem StS.put {z : Sx pw} {A : List Addr} (st : StE x H y H') (e1 : z.F = y.F) (e2 : z.io = y.io) (e3 : z.A2 = y.A2) (e4 : ∀ b ∈ z.A1, b ∈ y.A1 ∨ b ∈ A) (hA : ∀ a ∈ A, H a = none) : StS x H z H' := by
  have t := st.toS
  refine ⟨⟨by rw [e1]; exact t.st.F, by rw [e2]; exact t.st.io, t.st.keep, t.st.there, by rw [e1]; exact t.st.newF, by rw [e3]; exact t.st.newA⟩, fun b hb => ?_⟩
  rcases e4 b hb with h | h
  · exact t.a1 b h
  · exact .inr (.inr (hA b h))
/-- x = e -/
def sSet (i : Nat) (f : SCe) : SS := fun r m => bindS r (f r m) fun c m => .nx (r.set i (some c)) m
theorem ds_set {i : Nat} {n : Str} {f : SCe} {pos' : Pos} (hN : X.N.Nodup) (hi : X.N[i]? = some n) (hx : Loc X.env.scope n) (he : DC X w e f) (hs : swapsWith e (some (.Name n pos')) pos.line X.env = pure false := by rfl) (hf : X.fn n = true ∨ X.env.scope.names.lookup n = some .local := by first | exact .inl rfl | exact .inr rfl | assumption) :
    DS X w (.Assign [.Name n pos'] e pos) (sSet i f) := PS.imp (ps_set hN hi hx he hs hf) fun E s H ⟨x, r, m, R, q⟩ => by
  refine rdC_bindS R q fun c m1 v y H1 A R1 hc hA st q1 => ?_
  obtain ⟨z, R2, e1, e2, e3, e4⟩ := R1.put i hc fun a ha => ⟨(hA a ha).1, (hA a ha).2.1⟩
  exact q1 _ z H1 R2 (StS.put st e1 e2 e3 e4 fun a ha => (hA a ha).2.2)
end
end Dl
set_option autoImplicit true
/-! The data layer: targets, pairs, lists that grow, loops. -/
namespace Dl
open PySem PySem.Spec PyProof.Rows L2 TL
section
variable {x y : Sx pw} {r : Env} {m : Sto} {s : L2.St} {H H' : Hp} {w : Wi} {E : Ends} {X : Cx} {e a b c : Expr} {es : List Expr} {pos : Pos} {fe : SE} {g : SL}

/-! ### a, b = e1, e2 -/
/-- a cell that waits to be stored: its places are nobody's, and were none at the start -/
structure Wait (H0 : Hp) (y : Sx pw) (H : Hp) (c : Cell) (v : V) (A : List Addr) : Prop where
  rep : CellR pw y.F y.io H c v A
  own : ∀ a ∈ A, y.F a = none ∧ a ∉ y.A1 ++ y.A2
  new : ∀ a ∈ A, H0 a = none
theorem Wait.stay {H0 : Hp} {c : Cell} {v : V} {A : List Addr} (h : Wait H0 x H c v A) (st : StE x H y H') : Wait H0 y H' c v A :=
  let ⟨p, q⟩ := h.rep.stay h.own st
  ⟨p, q, h.new⟩
theorem rdC_bindW {f : SCe} {k : Cell → Sto → Fl} {K : VK} {x0 : Sx pw} {H0 : Hp} (st0 : StE x0 H0 x H) (R : Rel x r m s H) (h : FinS w x0 H0 E (bindS r (f r m) k))
    (kk : ∀ c m' v y H' A, Rel y r m' s H' → Wait H0 y H' c v A → (∀ a ∈ A, H a = none) → StE x H y H' → StE x0 H0 y H' → FinS w x0 H0 E (k c m') → K v H') : rdC pw w f s H K := by
  refine ⟨x, r, m, R, ?_⟩
  cases e : f r m with
  | ok a m' =>
    rw [e] at h
    exact fun v y H' A R' p n st => kk a m' v y H' A R' ⟨p, fun a ha => ⟨(n a ha).1, (n a ha).2.1⟩, fun a ha => st0.st.there a (n a ha).2.2⟩ (fun a ha => (n a ha).2.2) st (st0.trans st) h
  | exc c v m' =>
    rw [e] at h
    exact fun cls d y H' R' p st => h cls d s y H' R' p (st0.trans st).toS
  | bad =>
    rw [e] at h
    exact h
/-- stored, what else waits goes on waiting -/
theorem Rel.store {H0 : Hp} {c : Cell} {v : V} {A : List Addr} {x0 : Sx pw} (st : StE x0 H0 x H ∨ StS x0 H0 x H) (R : Rel x r m s H) (h : Wait H0 x H c v A) (i : Nat) :
    ∃ y : Sx pw, Rel y (r.set i (some c)) m (s.set i (some v)) H ∧ StS x0 H0 y H ∧ ∀ d u B, Wait H0 x H d u B → (∀ b ∈ B, b ∉ A) → Wait H0 y H d u B := by
  obtain ⟨y, R', e1, e2, e3, e4⟩ := R.put i h.rep h.own
  have t : StS x0 H0 x H := st.elim StE.toS id
  refine ⟨y, R', ⟨⟨by rw [e1]; exact t.st.F, by rw [e2]; exact t.st.io, t.st.keep, t.st.there, by rw [e1]; exact t.st.newF, by rw [e3]; exact t.st.newA⟩, fun b hb => ?_⟩, fun d u B hw hd => ⟨by rw [e1, e2]; exact hw.rep, fun b hb => ⟨by rw [e1]; exact (hw.own b hb).1, fun z => ?_⟩, hw.new⟩⟩
  · rcases e4 b hb with z | z
    · exact t.a1 b z
    · exact .inr (.inr (h.new b z))
  · rcases List.mem_append.mp z with z | z
    · rcases e4 b z with z | z
      · exact (hw.own b hb).2 (List.mem_append_left _ z)
      · exact hd b hb z
    · rw [e3] at z
      exact (hw.own b hb).2 (List.mem_append_right _ z)
theorem apart {c : Cell} {v : V} {A B : List Addr} (h : CellR pw x.F x.io H c v A) (hB : ∀ b ∈ B, H b = none) : ∀ b ∈ B, b ∉ A := fun b hb z => h.there b z (hB b hb)
def sPar (i j : Nat) (f g : SCe) : SS := fun r m => bindS r (f r m) fun c m => bindS r (g r m) fun d m => .nx ((r.set i (some c)).set j (some d)) m
theorem ds_par {i j : Nat} {n k : Str} {f h : SCe} {px py pt : Pos} {kt k2 : Nat} {pt2 : Pos} (hc : X.calm = true) (hN : X.N.Nodup) (hi : X.N[i]? = some n) (hj : X.N[j]? = some k) (hij : i ≠ j)
    (hx : X.env.scope.names.lookup n = some .local) (hy : X.env.scope.names.lookup k = some .local) (ha : DC X w a f) (hb : DC X w b h)
    (hw : swappedStores [.Tuple [.Name n px, .Name k py] kt pt] (.Tuple [a, b] k2 pt2) X.env = pure (some [n, k]))
    (hs : swapsWithSole [.Tuple [.Name n px, .Name k py] kt pt] (.Tuple [a, b] k2 pt2) pos.line X.env = pure false := by rfl) (h1 : starEach [a, b] X.env = (false, eval a X.env) :: starEach [b] X.env := by rfl) (h2 : starEach [b] X.env = [(false, eval b X.env)] := by rfl) :
    DS X w (.Assign [.Tuple [.Name n px, .Name k py] kt pt] (.Tuple [a, b] k2 pt2) pos) (sPar i j f h) :=
  PS.imp (ps_par hc hN hi hj hij hx hy (pa_cons ha (pa_cons hb pa_nil h2) h1) hw hs) fun E s H ⟨x, r, m, R, q⟩ => by
    refine rdC_bindW .refl R q fun c m1 v y H1 A R1 hc hA st st0 q1 => ?_
    refine rdC_bindW st0 R1 q1 fun d m2 u z H2 B R2 hd hB st2 st02 q2 => ?_
    refine ⟨v, u, rfl, ?_⟩
    obtain ⟨t, R3, st3, wt⟩ := R2.store (.inl st02) (hc.stay st2) i
    obtain ⟨o, R4, st4, _⟩ := R3.store (.inr st3) (wt _ _ _ hd (apart hc.rep hB)) j
    exact q2 _ o H2 R4 st4
def sPar3 (i j l : Nat) (f g h : SCe) : SS := fun r m => bindS r (f r m) fun c m => bindS r (g r m) fun d m => bindS r (h r m) fun k m => .nx (((r.set i (some c)).set j (some d)).set l (some k)) m
theorem ds_par3 {i j l : Nat} {n k u : Str} {f h o : SCe} {px py pz pt : Pos} {kt k2 : Nat} {pt2 : Pos} (hc : X.calm = true) (hN : X.N.Nodup) (hi : X.N[i]? = some n) (hj : X.N[j]? = some k) (hl : X.N[l]? = some u) (hij : i ≠ j) (hil : i ≠ l) (hjl : j ≠ l)
    (hx : X.env.scope.names.lookup n = some .local) (hy : X.env.scope.names.lookup k = some .local) (hz : X.env.scope.names.lookup u = some .local) (ha : DC X w a f) (hb : DC X w b h) (hcc : DC X w c o)
    (hw : swappedStores [.Tuple [.Name n px, .Name k py, .Name u pz] kt pt] (.Tuple [a, b, c] k2 pt2) X.env = pure (some [n, k, u]))
    (hs : swapsWithSole [.Tuple [.Name n px, .Name k py, .Name u pz] kt pt] (.Tuple [a, b, c] k2 pt2) pos.line X.env = pure false := by rfl) (h1 : starEach [a, b, c] X.env = (false, eval a X.env) :: starEach [b, c] X.env := by rfl) (h2 : starEach [b, c] X.env = (false, eval b X.env) :: starEach [c] X.env := by rfl) (h3 : starEach [c] X.env = [(false, eval c X.env)] := by rfl) :
    DS X w (.Assign [.Tuple [.Name n px, .Name k py, .Name u pz] kt pt] (.Tuple [a, b, c] k2 pt2) pos) (sPar3 i j l f h o) :=
  PS.imp (ps_par3 hc hN hi hj hl hij hil hjl hx hy hz (pa_cons ha (pa_cons hb (pa_cons hcc pa_nil h3) h2) h1) hw hs) fun E s H ⟨x, r, m, R, q⟩ => by
    refine rdC_bindW .refl R q fun c m1 v y H1 A R1 hc hA st st0 q1 => ?_
    refine rdC_bindW st0 R1 q1 fun d m2 u z H2 B R2 hd hB st2 st02 q2 => ?_
    refine rdC_bindW st02 R2 q2 fun k m3 o t H3 C R3 hk hC st3 st03 q3 => ?_
    refine ⟨v, u, o, rfl, ?_⟩
    have hc2 := hc.stay st2
    obtain ⟨t1, Q1, s1, w1⟩ := R3.store (.inl st03) (hc2.stay st3) i
    obtain ⟨t2, Q2, s2, w2⟩ := Q1.store (.inr s1) (w1 _ _ _ (hd.stay st3) (apart hc.rep hB)) j
    obtain ⟨t3, Q3, s3, _⟩ := Q2.store (.inr s2) (w2 _ _ _ (w1 _ _ _ hk (apart hc2.rep hC)) (apart hd.rep hC)) l
    exact q3 _ t3 H3 Q3 s3

/-! ### targets -/
abbrev Gm := D → Env → Option Env
/-- only these slots are other -/
def Only (ws : List Nat) (s s' : L2.St) : Prop := s'.length = s.length ∧ ∀ j, j ∉ ws → s'[j]? = s[j]?
theorem Only.refl {ws : List Nat} {s : L2.St} : Only ws s s := ⟨rfl, fun _ _ => rfl⟩
theorem Only.trans {ws vs : List Nat} {s s' s2 : L2.St} (a : Only ws s s') (b : Only vs s' s2) : Only (ws ++ vs) s s2 :=
  ⟨b.1.trans a.1, fun j h => (b.2 j fun z => h (List.mem_append_right _ z)).trans (a.2 j fun z => h (List.mem_append_left _ z))⟩
def rdG (pw : PWd) (ws : List Nat) (f : Gm) : TG := fun v s H Q => ∃ (x : Sx pw) (r : Env) (m : Sto) (d : D), Rel x r m s H ∧ Rep x.F x.io d v ∧ match f d r with
  | some r' => ∀ s' (y : Sx pw), Rel y r' m s' H → y.F = x.F → y.io = x.io → y.A2 = x.A2 → (∀ b ∈ y.A1, b ∈ x.A1) → Only ws s s' → Q s' H
  | none => False
abbrev DG (X : Cx) (tg : Expr) (ws : List Nat) (f : Gm) : Prop := PG X tg (rdG (pwOf X) ws f)
def gN (i : Nat) : Gm := fun d r => some (r.set i (some (.val d)))
theorem dg_name {i : Nat} {n : Str} (hN : X.N.Nodup) (hi : X.N[i]? = some n) (hx : Loc X.env.scope n) (hf : X.fn n = true ∨ X.env.scope.names.lookup n = some .local := by first | exact .inl rfl | exact .inr rfl | assumption) : DG X (.Name n pos) [i] (gN i) :=
  PG.imp (pg_name hN hi hx hf) fun v s H Q ⟨x, r, m, d, R, p, q⟩ => by
    obtain ⟨y, R', e1, e2, e3, e4⟩ := R.putV i p
    exact q _ y R' e1 e2 e3 e4 ⟨List.length_set, fun j h => List.getElem?_set_ne fun e => h (by simp [e])⟩
abbrev Gms := List D → Env → Option Env
def gsNil : Gms := fun l r => match l with
  | [] => some r
  | _ => none
def gsCons (f : Gm) (g : Gms) : Gms := fun l r => match l with
  | d :: l => (f d r).bind (g l)
  | [] => none
def rdGs (pw : PWd) (ws : List Nat) (f : Gms) : TGs := fun vs s H Q => ∃ (x : Sx pw) (r : Env) (m : Sto) (ds : List D), Rel x r m s H ∧ Reps x.F x.io ds vs ∧ match f ds r with
  | some r' => ∀ s' (y : Sx pw), Rel y r' m s' H → y.F = x.F → y.io = x.io → y.A2 = x.A2 → (∀ b ∈ y.A1, b ∈ x.A1) → Only ws s s' → Q s' H
  | none => False
abbrev DGs (X : Cx) (ts : List Expr) (ws : List Nat) (f : Gms) : Prop := PGs X ts (rdGs (pwOf X) ws f)
theorem PGs.imp {es : List Expr} {t t' : TGs} (h : PGs X es t) (k : ∀ v s H Q, t' v s H Q → t v s H Q) : PGs X es t' := ⟨fun pins s σ H v u Q I r q => h.run pins s σ H v u Q I r (k _ _ _ _ q)⟩
theorem dgs_nil : DGs X [] [] gsNil := PGs.imp pgs_nil fun v s H Q ⟨x, r, m, ds, R, p, q⟩ => by
  cases p with
  | nil => exact ⟨rfl, q s x R rfl rfl rfl (fun b h => h) .refl⟩
  | cons _ _ => exact q.elim
theorem dgs_cons {f : Gm} {h : Gms} {ws vs : List Nat} (h1 : DG X e ws f) (h2 : DGs X es vs h) (hs : (assignEach (e :: es) X.env).map (·.2) = assign e X.env :: (assignEach es X.env).map (·.2) := by rfl) : DGs X (e :: es) (ws ++ vs) (gsCons f h) :=
  PGs.imp (pgs_cons h1 h2 hs) fun v s H Q ⟨x, r, m, ds, R, p, q⟩ => by
    cases p with
    | nil => exact q.elim
    | @cons d v ds us rp rt =>
      refine ⟨v, us, rfl, ⟨x, r, m, d, R, rp, ?_⟩⟩
      have q : match (f d r).bind (h ds) with
        | some r' => ∀ s' (y : Sx (pwOf X)), Rel y r' m s' H → y.F = x.F → y.io = x.io → y.A2 = x.A2 → (∀ b ∈ y.A1, b ∈ x.A1) → Only (ws ++ vs) s s' → Q s' H
        | none => False := q
      cases k : f d r with
      | none =>
        rw [k] at q
        exact q.elim
      | some r' =>
        rw [k] at q
        intro s' y R' e1 e2 e3 e4 o1
        refine ⟨y, r', m, ds, R', by rw [e1, e2]; exact rt, ?_⟩
        have q : match h ds r' with
          | some r' => ∀ s' (y : Sx (pwOf X)), Rel y r' m s' H → y.F = x.F → y.io = x.io → y.A2 = x.A2 → (∀ b ∈ y.A1, b ∈ x.A1) → Only (ws ++ vs) s s' → Q s' H
          | none => False := q
        cases k2 : h ds r' with
        | none =>
          rw [k2] at q
          exact q.elim
        | some r2 =>
          rw [k2] at q
          exact fun s2 z R2 g1 g2 g3 g4 o2 => q s2 z R2 (g1.trans e1) (g2.trans e2) (g3.trans e3) (fun b hb => e4 b (g4 b hb)) (o1.trans o2)
def gTup (f : Gms) : Gm := fun d r => match d with
  | .tup l => f l r
  | _ => none
/-- how many a targets' list takes -/
def Takes (f : Gms) (n : Nat) : Prop := ∀ l r, l.length ≠ n → f l r = none
theorem tk_nil : Takes gsNil 0 := fun l r h => by
  cases l with
  | nil => exact absurd rfl h
  | cons _ _ => rfl
theorem tk_cons {f : Gm} {h : Gms} {n : Nat} (t : Takes h n) : Takes (gsCons f h) (n + 1) := fun l r hl => by
  cases l with
  | nil => rfl
  | cons d l =>
    show (f d r).bind (h l) = none
    cases f d r with
    | none => rfl
    | some r' => exact t l r' fun e => hl (by simp [e])
theorem dg_tup {f : Gms} {k n : Nat} {ws : List Nat} (hc : X.calm = true) (h : DGs X es ws f) (t : Takes f n) (hn : (assignEach es X.env).length = n := by rfl) (hst : (assignEach es X.env).findIdx? (·.1) = none := by rfl) : DG X (.Tuple es k pos) ws (gTup f) :=
  PG.imp (pg_tup hc h hn hst) fun v s H Q ⟨x, r, m, d, R, p, q⟩ => by
    cases d with
    | tup l =>
      obtain ⟨a, vs, rfl, hF, hp, rp⟩ := (Pk.of (H := H) p).tup R
      by_cases hl : l.length = n
      · exact ⟨a, vs, rfl, SqT.of hp, by rw [← rp.length]; exact hl, x, r, m, l, R, rp, q⟩
      · have q : match f l r with
          | some r' => ∀ s' (y : Sx (pwOf X)), Rel y r' m s' H → y.F = x.F → y.io = x.io → y.A2 = x.A2 → (∀ b ∈ y.A1, b ∈ x.A1) → Only ws s s' → Q s' H
          | none => False := q
        rw [t l r hl] at q
        exact q.elim
    | _ => exact q.elim
/-- target = e -/
def sAsg (g : Gm) (f : SE) : SS := fun r m => bindS r (f r m) fun d m => match g d r with
  | some r' => .nx r' m
  | none => .bad
theorem rd_target {f : Gm} {ws : List Nat} {E : Ends} {d : D} {v : V} {x0 : Sx pw} {H0 : Hp} {k : Env → Fl} {K : L2.St → Hp → Prop} (st : StS x0 H0 x H) (R : Rel x r m s H) (p : Rep x.F x.io d v) (q : FinS w x0 H0 E (match f d r with | some r' => k r' | none => .bad))
    (kk : ∀ r' s' y, Rel y r' m s' H → StS x0 H0 y H → FinS w x0 H0 E (k r') → f d r = some r' → K s' H) : rdG pw ws f v s H K := by
  refine ⟨x, r, m, d, R, p, ?_⟩
  cases e : f d r with
  | none =>
    rw [e] at q
    exact q.elim
  | some r' =>
    rw [e] at q
    exact fun s' y R' e1 e2 e3 e4 _ => kk r' s' y R' (st.trans (.same e1 e2 e3 fun b hb => .inl (e4 b hb))) q e
theorem ds_asg {tg : Expr} {f : Gm} {ws : List Nat} (he : DE X w e fe) (hg : DG X tg ws f) (hs : swapsWithSole [tg] e pos.line X.env = pure false := by rfl) (hw : swappedStores [tg] e X.env = pure none := by rfl)
    (h1 : (assignEach [tg] X.env).map (·.2) = [assign tg X.env] := by rfl) : DS X w (.Assign [tg] e pos) (sAsg f fe) :=
  PS.imp (ps_asg he hg hs hw h1) fun E s H ⟨x, r, m, R, q⟩ => by
    refine rd_bindS R q fun d m1 v y H1 R1 p1 st1 q1 => ?_
    exact rd_target .refl R1 p1 q1 fun r' s' z R2 st2 q2 _ => q2 s' z H1 R2 st2

/-! ### lists that grow -/
/-- x.append(e), x a slot's own list -/
def sApp (i : Nat) (f : SE) : SS := fun r m => match r[i]? with
  | some (some (.lst l)) => bindS r (f r m) fun d m => if l.length < LIM then .nx (r.set i (some (.lst (l ++ [d])))) m else .bad
  | _ => .bad
theorem ds_app {i : Nat} {o : Expr} {p1 p2 : Pos} (ho : PE X o (tVar i)) (ha : DE X w e fe)
    (hs : swapsWith (.Call (.Attribute o "append" p1) [e] [] p2) none pos.line X.env = pure false := by rfl) (hst : starEach [e] X.env = [(false, eval e X.env)] := by rfl)
    (hp : PE X (.Call (.Attribute o "append" p1) [e] [] p2) (tBM X.K "list" rAppend (tVar i) (tCons (rd (PV (pw := pwOf X)) w fe) tNil))) :
    DS X w (.Expr (.Call (.Attribute o "append" p1) [e] [] p2) pos) (sApp i fe) := PS.imp (ps_expr hp hs) fun E s H ⟨x, r, m, R, q⟩ => by
  unfold sApp at q
  split at q
  · rename_i l hl
    obtain ⟨a, vs, es, haA, ha, rp, _⟩ := R.own (l' := []) hl
    refine ⟨.ref a, es, .inl ⟨rfl, vs, SqL.of ha⟩, ?_⟩
    refine rd_bindS R q fun d m1 v y H1 R1 p1 st1 q1 => ?_
    obtain ⟨hz, q1⟩ := FinS.ite q1
    obtain ⟨a', vs', es', haA', ha', rp', up⟩ := R1.own (l' := l ++ [d]) hl
    have e1 : a' = a := by
      rw [es] at es'
      cases es'
      rfl
    subst e1
    refine ⟨a', vs', v, rfl, rfl, ha', by rw [← rp'.length, ← lim_eq]; exact hz, ?_⟩
    obtain ⟨z, R2, st2⟩ := up (vs' ++ [v]) (rp'.append (.cons p1 .nil))
    exact q1 s z _ R2 st2
  · exact q.elim
/-- x.extend(e) -/
def sExt (i : Nat) (f : SE) : SS := fun r m => match r[i]? with
  | some (some (.lst l)) => bindS r (f r m) fun d m => match d with
    | .lst k => if l.length + k.length ≤ LIM then .nx (r.set i (some (.lst (l ++ k)))) m else .bad
    | _ => .bad
  | _ => .bad
theorem ds_ext {i : Nat} {o : Expr} {p1 p2 : Pos} (ho : PE X o (tVar i)) (ha : DE X w e fe)
    (hs : swapsWith (.Call (.Attribute o "extend" p1) [e] [] p2) none pos.line X.env = pure false := by rfl)
    (hp : PE X (.Call (.Attribute o "extend" p1) [e] [] p2) (tBM X.K "list" rExtend (tVar i) (tCons (rd (PV (pw := pwOf X)) w fe) tNil))) :
    DS X w (.Expr (.Call (.Attribute o "extend" p1) [e] [] p2) pos) (sExt i fe) := PS.imp (ps_expr hp hs) fun E s H ⟨x, r, m, R, q⟩ => by
  unfold sExt at q
  split at q
  · rename_i l hl
    obtain ⟨a, vs, es, haA, ha, rp, _⟩ := R.own (l' := []) hl
    refine ⟨.ref a, es, .inl ⟨rfl, vs, SqL.of ha⟩, ?_⟩
    refine rd_bindS R q fun d m1 v y H1 R1 p1 st1 q1 => ?_
    cases d with
    | lst k =>
      obtain ⟨hz, q1⟩ := FinS.ite q1
      obtain ⟨a', vs', es', haA', ha', rp', up⟩ := R1.own (l' := l ++ k) hl
      have e1 : a' = a := by
        rw [es] at es'
        cases es'
        rfl
      subst e1
      obtain ⟨b, us, rfl, hb, rb⟩ := (Pk.of (H := H1) p1).lst R1
      refine ⟨a', b, vs', us, rfl, rfl, ha', hb, by rw [← rp'.length, ← rb.length, ← lim_eq]; exact hz, ?_⟩
      obtain ⟨z, R2, st2⟩ := up (vs' ++ us) (rp'.append rb)
      exact q1 s z _ R2 st2
    | _ => exact q1.elim
  · exact q.elim
/-- x[k] = e, x a slot's own list -/
def sPutL (i : Nat) (k f : SE) : SS := fun r m => bindS r (f r m) fun d m => match r[i]? with
  | some (some (.lst l)) => bindS r (k r m) fun j m => match j with
    | .int j => match ixN l.length j with
      | some n => .nx (r.set i (some (.lst (l.set n d)))) m
      | none => .bad
    | _ => .bad
  | _ => .bad

/-! ### loops -/
/-- what a loop walks: at turn i it gives the i-th -/
inductive Yl (F : Hp) (io : List Addr) (H : Hp) : D → V → Hp → Prop
  | here {d : D} {v : V} : Rep F io d v → Yl F io H d v H
  | new {T : Addr} {ds : List D} {vs : List V} : H T = none → Reps F io ds vs → Yl F io H (.tup ds) (.ref T) (upd H T (.tup vs))
structure Serves (F : Hp) (io : List Addr) (J : It) (ds : List D) : Prop where
  go : ∀ F' H i, Sub F F' → Sub F' H → i < ds.length → J.go i H
  stop : ∀ F' H, Sub F F' → Sub F' H → J.stop ds.length H
  yld : ∀ F' io' H i d v H', Sub F F' → Pfx io io' → Sub F' H → ds[i]? = some d → J.yld i H v H' → Yl F' io' H d v H'
def PIt {pw : PWd} : PP pw (List D) It := fun x _ ds J => Serves x.F x.io J ds
abbrev DI (X : Cx) (w : Wi) (tg iter : Expr) (f : SL) : Prop := PI X tg iter (rd (PIt (pw := pwOf X)) w f)
theorem Serves.mono {F F' : Hp} {io io' : List Addr} {J : It} {ds : List D} (h : Serves F io J ds) (hF : Sub F F') (hi : Pfx io io') : Serves F' io' J ds :=
  ⟨fun G H i a b c => h.go G H i (hF.trans a) b c, fun G H a b => h.stop G H (hF.trans a) b, fun G jo H i d v H' a b c e k => h.yld G jo H i d v H' (hF.trans a) (hi.trans b) c e k⟩
theorem Serves.of_walk {F : Hp} {io : List Addr} {J : It} {ds : List D} {n : Nat} {G : Hp → Prop} {Y : Nat → Hp → V → Hp → Prop} (wk : Walk J n G Y) (hn : n = ds.length) (hG : ∀ F' H, Sub F F' → Sub F' H → G H)
    (hY : ∀ F' io' H i d v H', Sub F F' → Pfx io io' → Sub F' H → ds[i]? = some d → Y i H v H' → Yl F' io' H d v H') : Serves F io J ds :=
  ⟨fun F' H i a b c => wk.goes i H (by omega) (hG F' H a b), fun F' H a b => hn ▸ wk.stops H (hG F' H a b), fun F' io' H i d v H' a b c e k => hY F' io' H i d v H' a b c e (wk.yields i H v H' (by
    have := (List.getElem?_eq_some_iff.mp e).1
    omega) (hG F' H a c) k)⟩
/-- a thing that a loop gives is taken into the state -/
theorem Rel.yl {d : D} {v : V} (R : Rel x r m s H) (h : Yl x.F x.io H d v H') : ∃ y : Sx pw, Rel y r m s H' ∧ Rep y.F y.io d v ∧ StE x H y H' := by
  cases h with
  | here p => exact ⟨x, R, p, .refl⟩
  | new hT p => exact ⟨_, R.new hT, .tup upd_same (p.up R hT), .new R hT⟩
def forL (g : Gm) (b : SS) : List D → SS
  | [], r, m => .nx r m
  | d :: l, r, m => match g d r with
    | some r' => match b r' m with
      | .nx r m => forL g b l r m
      | .ct r m => forL g b l r m
      | .bk r m => .nx r m
      | .rt d m => .rt d m
      | .exc c v r m => .exc c v r m
      | .bad => .bad
    | none => .bad
def sFor (f : SL) (g : Gm) (b : SS) : SS := fun r m => bindS r (f r m) fun l m => forL g b l r m
theorem ds_for {ws : List Nat} {tg iter : Expr} {body : List Stmt} {f : SL} {g : Gm} {b : SS} (hp : PassesOwn (model X.prog X.w) X.A X.env X.xe) (hc : X.calm = true) (hi : DI X w tg iter f) (hg : DG X tg ws g) (hb : DSs X w body b)
    (hs : ∀ x, foldedSetIterable iter X.env x = pure x := by intro _; rfl) : DS X w (.For tg iter body [] pos) (sFor f g b) :=
  PS.imp (ps_for hp hc hi hg hb hs) fun E s0 H0 ⟨x0, r0, m0, R0, q0⟩ => by
    refine rd_bindS R0 q0 fun ds m1 J y1 H1 R1 sv st1 q1 => ?_
    -- the state before turn i: what is left to do answers
    refine ⟨fun i n s H => n = ds.length - i ∧ i ≤ ds.length ∧ ∃ (y : Sx (pwOf X)) (r : Env) (m : Sto), Rel y r m s H ∧ StS y1 H1 y H ∧ FinS w y1 H1 E (forL g b (ds.drop i) r m), ⟨ds.length, by simp, Nat.zero_le _, y1, r0, m1, R1, .refl, q1⟩, ?_⟩
    rintro i n s H ⟨rfl, hi, y, r, m, R, st, q⟩
    by_cases hlt : i < ds.length
    · refine .inr ⟨sv.go y.F H i st.st.F R.sub hlt, fun s' H' => ∃ y' r' m', Rel y' r' m' s' H' ∧ StS y1 H1 y' H' ∧ FinS w y1 H1 E (forL g b (ds.drop (i + 1)) r' m'), fun s' H' ⟨y', r', m', R', st', q'⟩ => ⟨ds.length - (i + 1), by omega, rfl, hlt, y', r', m', R', st', q'⟩, fun v H' hy => ?_⟩
      have hd : ds.drop i = ds[i] :: ds.drop (i + 1) := List.drop_eq_getElem_cons hlt
      rw [hd] at q
      obtain ⟨z, Rz, pz, stz⟩ := R.yl (sv.yld y.F y.io H i ds[i] v H' st.st.F st.st.io R.sub (List.getElem?_eq_getElem hlt) hy)
      have q : FinS w y1 H1 E (match g ds[i] r with
        | some r' => match b r' m with
          | .nx r m => forL g b (ds.drop (i + 1)) r m
          | .ct r m => forL g b (ds.drop (i + 1)) r m
          | .bk r m => .nx r m
          | .rt d m => .rt d m
          | .exc c v r m => .exc c v r m
          | .bad => .bad
        | none => .bad) := q
      have q' : FinS w y1 H1 E (match g ds[i] r with
        | some r' => (fun r' => match b r' m with
          | .nx r m => forL g b (ds.drop (i + 1)) r m
          | .ct r m => forL g b (ds.drop (i + 1)) r m
          | .bk r m => .nx r m
          | .rt d m => .rt d m
          | .exc c v r m => .exc c v r m
          | .bad => .bad) r'
        | none => .bad) := q
      refine rd_target (st.trans stz.toS) Rz pz q' fun r' s' u R2 st2 q2 _ => ?_
      refine ⟨u, r', m, R2, ?_⟩
      cases k : b r' m with
      | nx r3 m3 =>
        rw [k] at q2
        exact fun s3 t H3 R3 st3 => ⟨t, r3, m3, R3, st2.trans st3, q2⟩
      | ct r3 m3 =>
        rw [k] at q2
        exact fun s3 t H3 R3 st3 => ⟨t, r3, m3, R3, st2.trans st3, q2⟩
      | bk r3 m3 =>
        rw [k] at q2
        exact fun s3 t H3 R3 st3 => q2 s3 t H3 R3 (st2.trans st3)
      | rt d m3 =>
        rw [k] at q2
        exact fun v3 t H3 R3 p3 st3 => q2 v3 t H3 R3 p3 (st2.trans st3)
      | exc c v3 r3 m3 =>
        rw [k] at q2
        exact fun cls d3 s3 t H3 R3 p3 st3 => q2 cls d3 s3 t H3 R3 p3 (st2.trans st3)
      | bad =>
        rw [k] at q2
        exact q2.elim
    · have e : i = ds.length := by omega
      subst e
      refine .inl ⟨sv.stop y.F H st.st.F R.sub, ?_⟩
      rw [List.drop_length] at q
      exact q s y H R st
/-- while: so many turns at the most -/
def whileN (t : SB) (b : SS) : Nat → SS
  | 0, _, _ => .bad
  | n + 1, r, m => bindS r (t r m) fun c m => if c = true then (match b r m with
      | .nx r m => whileN t b n r m
      | .ct r m => whileN t b n r m
      | .bk r m => .nx r m
      | .rt d m => .rt d m
      | .exc c v r m => .exc c v r m
      | .bad => .bad) else .nx r m
theorem ds_while {c : Expr} {body : List Stmt} {t : SB} {b : SS} (n : Nat) (hp : PassesOwn (model X.prog X.w) X.A X.env X.xe) (hc : DT X w c t) (hb : DSs X w body b) : DS X w (.While c body [] pos) (whileN t b n) :=
  PS.imp (ps_while hp hc hb) fun E s0 H0 ⟨x0, r0, m0, R0, q0⟩ => by
    refine ⟨fun n s H => ∃ (y : Sx (pwOf X)) (r : Env) (m : Sto), Rel y r m s H ∧ FinS w y H E (whileN t b n r m), ⟨n, x0, r0, m0, R0, q0⟩, ?_⟩
    rintro n s H ⟨y, r, m, R, q⟩
    cases n with
    | zero => exact q.elim
    | succ n =>
      have q : FinS w y H E (bindS r (t r m) fun c m => if c = true then (match b r m with
        | .nx r m => whileN t b n r m
        | .ct r m => whileN t b n r m
        | .bk r m => .nx r m
        | .rt d m => .rt d m
        | .exc c v r m => .exc c v r m
        | .bad => .bad) else .nx r m) := q
      refine rd_bindS R q fun k m1 v z H1 R1 p1 st1 q1 => ?_
      cases p1
      cases k with
      | false =>
        rw [if_neg Bool.false_ne_true] at q1 ⊢
        exact FinS.here R1 q1
      | true =>
        rw [if_pos rfl] at q1 ⊢
        refine ⟨fun s' H' => ∃ (y : Sx (pwOf X)) (r : Env) (m : Sto), Rel y r m s' H' ∧ FinS w y H' E (whileN t b n r m), fun s' H' ⟨y', r', m', R', q'⟩ => ⟨n, Nat.lt_succ_self _, y', r', m', R', q'⟩, z, r, m1, R1, ?_⟩
        cases k : b r m1 with
        | nx r3 m3 =>
          rw [k] at q1
          exact fun s3 t3 H3 R3 st3 => ⟨t3, r3, m3, R3, FinS.shift st3 q1⟩
        | ct r3 m3 =>
          rw [k] at q1
          exact fun s3 t3 H3 R3 st3 => ⟨t3, r3, m3, R3, FinS.shift st3 q1⟩
        | bk r3 m3 =>
          rw [k] at q1
          exact q1
        | rt d m3 =>
          rw [k] at q1
          exact q1
        | exc c v3 r3 m3 =>
          rw [k] at q1
          exact q1
        | bad =>
          rw [k] at q1
          exact q1
end
end Dl
set_option autoImplicit true
/-! The data layer: what is walked: lists, tuples, texts, ranges, zip of two and of three, enumerate. -/
namespace Dl
open PySem PySem.Spec PyProof.Rows L2 TL

/-- what stands and can be walked -/
inductive SrcK where
  | lst (a : Addr) (xs : List V)
  | tup (a : Addr) (xs : List V)
  | txt (z : Str)
namespace SrcK
def val : SrcK → V
  | .lst a _ => .ref a
  | .tup a _ => .ref a
  | .txt z => .str z
def isIn (H : Hp) : SrcK → Prop
  | .lst a xs => H a = some (.lst xs)
  | .tup a xs => H a = some (.tup xs)
  | .txt _ => True
def n : SrcK → Nat
  | .lst _ xs => xs.length
  | .tup _ xs => xs.length
  | .txt z => z.cps.size
def at' (i : Nat) : SrcK → Option V
  | .lst _ xs => xs[i]?
  | .tup _ xs => xs[i]?
  | .txt z => z.cps[i]?.map fun c => .str ⟨#[c]⟩
def it (it : Addr) (i : Nat) (h : Heap) : SrcK → Prop
  | .lst a _ => h.IsListIter it a i
  | .tup a _ => h.IsTupleIter it a i
  | .txt z => ∃ t, h.IsStrIter it (strIterType z) z t i
end SrcK
theorem SrcK.it_keep {k : SrcK} {it : Addr} {i : Nat} {h h' : Heap} (st : k.it it i h) (q : ∀ o, h.get? it = some o → h'.get? it = some o) : k.it it i h' := by
  cases k with
  | lst a xs => exact Heap.IsListIter.at st fun o e => q o e
  | tup a xs => exact Heap.IsTupleIter.at st fun o e => q o e
  | txt z => obtain ⟨t, o, ho, r⟩ := st; exact ⟨t, o, q o ho, r⟩
theorem SrcK.it_obj {k : SrcK} {it : Addr} {i : Nat} {h : Heap} (st : k.it it i h) : ∃ o, h.get? it = some o ∧ ∀ v, o.data ≠ .cell v := by
  cases k with
  | lst a xs => obtain ⟨o, e, _, d⟩ := st; exact ⟨o, e, fun v q => by rw [d] at q; cases q⟩
  | tup a xs => obtain ⟨o, e, _, d⟩ := st; exact ⟨o, e, fun v q => by rw [d] at q; cases q⟩
  | txt z => obtain ⟨t, o, e, _, d⟩ := st; exact ⟨o, e, fun v q => by rw [d] at q; cases q⟩
theorem vals_getU : ∀ {xs : List V} {us : List Value} {i : Nat} {u : Value}, Vals xs us → us[i]? = some u → ∃ v, xs[i]? = some v ∧ RelV v u
  | _, _, _, _, .nil, e => by simp at e
  | _, _, 0, _, .cons r _, e => by simp at e; subst e; exact ⟨_, rfl, r⟩
  | _, _, i + 1, u, .cons _ t, e => by
    obtain ⟨v, h1, h2⟩ := vals_getU (i := i) (u := u) t (by simpa using e)
    exact ⟨v, by simpa using h1, h2⟩
section
variable {X : Cx} {pins : List (Addr × Obj)} {σ : L2.St} {H : Hp} {s : Shared}
structure SrcDraws (X : Cx) (k : SrcK) (H : Hp) (h : Heap) (it : Addr) (i : Nat) (A : Around) : Prop where
  ex : ∃ (sf : List Addr) (P : Nat → Value → Prop) (St : Nat → Heap → Prop), Draws X.prog X.w A it (it :: sf) k.n P St ∧ St i h ∧ (∀ j h', St j h' → k.it it j h') ∧ (∀ j u, P j u → ∃ v, k.at' j = some v ∧ RelV v u) ∧ ∀ b ∈ sf, H b ≠ none
theorem SrcK.draws (k : SrcK) (I : Inv X pins σ H s) {A : Around} (hh : A.handled = none) (hin : k.isIn H) {it : Addr} {i : Nat} (hit : H it = none) (st : k.it it i s.heap) : SrcDraws X k H s.heap it i A := by
  cases k with
  | lst a xs =>
    have hin : H a = some (.lst xs) := hin
    obtain ⟨its, rv, p, hz⟩ := I.list (.of hin)
    have hne : a ≠ it := fun e => by rw [e, hit] at hin; cases hin
    have hl : its.toArray.size = xs.length := by rw [List.size_toArray, rv.length]
    refine ⟨[a], _, _, hl ▸ Draws.list hh it a hne its.toArray, ⟨st, p.isList⟩, fun j h' q => q.1, fun j u q => ?_, fun b hb => ?_⟩
    · have q : its.toArray[j]? = some u := q
      have q : its[j]? = some u := by simpa using q
      exact vals_getU rv q
    · have e : b = a := by simpa using hb
      rw [e, hin]
      exact fun z => by cases z
  | tup a xs =>
    have hin : H a = some (.tup xs) := hin
    obtain ⟨its, rv, p, hz⟩ := I.tuple (.of hin)
    have hne : a ≠ it := fun e => by rw [e, hit] at hin; cases hin
    have hl : its.toArray.size = xs.length := by rw [List.size_toArray, rv.length]
    refine ⟨[a], _, _, hl ▸ Draws.tuple hh it a hne its.toArray, ⟨st, p⟩, fun j h' q => q.1, fun j u q => ?_, fun b hb => ?_⟩
    · have q : its.toArray[j]? = some u := q
      have q : its[j]? = some u := by simpa using q
      exact vals_getU rv q
    · have e : b = a := by simpa using hb
      rw [e, hin]
      exact fun z => by cases z
  | txt z =>
    obtain ⟨t, st⟩ := st
    refine ⟨[], _, _, Draws.text hh it z t, st, fun j h' q => ⟨t, q⟩, fun j u q => ?_, fun b hb => by cases hb⟩
    obtain ⟨c, tk, e, rfl⟩ := q
    exact ⟨.str ⟨#[c]⟩, by simp [SrcK.at', e], ⟨tk, rfl⟩⟩
/-- an item of an iterator that gives new tuples -/
theorem item_new {tg : Expr} {I0 : Addr} {fp ffp wr : List Addr} {n i : Nat} {Y : Nat → Heap → Value → Heap → Prop} {S : Nat → Heap → Prop} {tn : Heap → Prop} {K : V → Hp → Prop} {E : Value → Shared → Prop} (G : GoesN X.prog X.w X.A tg I0 ffp wr n Y S) (hi : i < n) (st : S i s.heap)
    (I : Inv X pins σ H s) (hf : ∀ b ∈ fp, FpOk X pins H b) (hl : ∀ b ∈ fp, b < s.heap.objs.size) (hw : ∀ b ∈ wr, b ∈ fp) (hst : ∀ h', S (i + 1) h' → tn h')
    (hY : ∀ v h', Y i s.heap v h' → ∃ (T : Addr) (us : List Value) (vs : List V), v = .ref T ∧ s.heap.objs.size ≤ T ∧ Vals vs us ∧ vs.length ≤ sizeLine ∧ IsTup h' T us.toArray ∧ ∀ (hT : H T = none), K (.ref T) (upd H T (.tup vs))) :
    wpAny (model X.prog X.w) X.A (pyNext (.ref I0)) (fun r s1 => ∃ u, r = some u ∧
      wpAny (model X.prog X.w) X.A (letOwnedTupleGo tg (.ref I0) u) (fun _ s2 => ∃ x H', Inv X pins σ H' s2 ∧ RelV x u ∧ K x H' ∧ tn s2.heap ∧ ∀ b ∈ fp, H' b = none) E s1) E s := by
  refine G.goes i s (fun v s2 => ∃ x H', Inv X pins σ H' s2 ∧ RelV x v ∧ K x H' ∧ tn s2.heap ∧ ∀ b ∈ fp, H' b = none) E hi st fun v h' tk hy st' hk htk => ?_
  obtain ⟨T, us, vs, rfl, hT, rv, hz, p, k⟩ := hY v h' hy
  have hn : H T = none := I.hok.fresh hT
  have new : ObjOk X.prog X.w (upd H T (.tup vs)) h' T (.tup vs) := ⟨hz, us, rv, p⟩
  refine ⟨.ref T, _, I.turnedNew (t' := tk) (ch := fp) (fun b o hb e => hk b o (fun z => hb (hw b z)) e) hf hT new, rfl, k hn, hst h' st', fun b hb => ?_⟩
  rw [upd_ne (Nat.ne_of_lt (Nat.lt_of_lt_of_le (hl b hb) hT))]
  exact (hf b hb).1
theorem done_new {tg : Expr} {I0 : Addr} {fp ffp wr : List Addr} {n : Nat} {Y : Nat → Heap → Value → Heap → Prop} {S : Nat → Heap → Prop} {E : Value → Shared → Prop} (G : GoesN X.prog X.w X.A tg I0 ffp wr n Y S) (st : S n s.heap)
    (I : Inv X pins σ H s) (hf : ∀ b ∈ fp, FpOk X pins H b) (hw : ∀ b ∈ wr, b ∈ fp) :
    wpAny (model X.prog X.w) X.A (pyNext (.ref I0)) (fun r s1 => r = none ∧ Inv X pins σ H s1) E s :=
  G.stops s (fun s1 => Inv X pins σ H s1) E st fun h' tk hk htk => I.turnedL (t' := tk) (ch := fp) (fun b o hb e => hk b o (fun z => hb (hw b z)) e) hf
end

/-! ### zip of two -/
def ItZ2 (k1 k2 : SrcK) : It :=
  ⟨fun i H => i < min k1.n k2.n ∧ k1.isIn H ∧ k2.isIn H, fun i H v H' => ∃ T x y, v = .ref T ∧ H T = none ∧ H' = upd H T (.tup [x, y]) ∧ k1.at' i = some x ∧ k2.at' i = some y, fun i H => i = min k1.n k2.n ∧ k1.isIn H ∧ k2.isIn H⟩
theorem turn_zip2 {P : Program} {w : World} {K : PySem.W.Frag} {elts : List Expr} {kk : Nat} {tpos : Pos} {z TI TO i1 i2 : Addr} {k1 k2 : SrcK} (h1 : TI ≠ z) (h2 : TO ≠ z) (h3 : TI ≠ TO) (h4 : TI ≠ i1) (h5 : TI ≠ i2) (h6 : z ≠ i1) (h7 : TO ≠ i1) (h8 : z ≠ i2) (h9 : TO ≠ i2) (h10 : i1 ≠ i2) :
    Turn P w K (.Tuple elts kk tpos) (ItZ2 k1 k2) [z, TI, TO, i1, i2] z (fun i h => IsZip h z TI TO .none ∧ IsTupOf2 h TI (.ref i1) (.ref i2) ∧ (∃ x y, IsTupOf2 h TO x y) ∧ k1.it i1 i h ∧ k2.it i2 i h) := by
  have sep : ∀ {X : Cx} {pins : List (Addr × Obj)} {H : Hp} {sf1 sf2 : List Addr}, (∀ b ∈ [z, TI, TO, i1, i2], FpOk X pins H b) → (∀ b ∈ sf1, H b ≠ none) → (∀ b ∈ sf2, H b ≠ none) → ZipSep2 z TI TO i1 i2 (i1 :: sf1) (i2 :: sf2) := fun {X pins H sf1 sf2} hf n1 n2 => by
    have nin : ∀ {b j : Addr} {sf : List Addr}, b ∈ [z, TI, TO, i1, i2] → (∀ c ∈ sf, H c ≠ none) → b ≠ j → b ∉ j :: sf := fun {b j sf} hb hn hj hm => by
      rcases List.mem_cons.mp hm with q | q
      · exact hj q
      · exact hn b q (hf b hb).1
    exact { TIz := h1, TOz := h2, TITO := h3, TIi1 := h4, mem1 := List.mem_cons_self .., zf1 := nin (by simp) n1 h6, Tf1 := nin (by simp) n1 h7, TIi2 := h5, mem2 := List.mem_cons_self .., zf2 := nin (by simp) n2 h8, Tf2 := nin (by simp) n2 h9, sep1_2 := nin (by simp) n2 h10, sep2_1 := nin (by simp) n1 (Ne.symm h10) }
  refine ⟨by simp, fun i h st c hc => ?_, fun i h h' st k => ?_, ?_, ?_, fun A i s Q E st h => wpAny_pyIter_zip st.1 h⟩
  · obtain ⟨hz, hTI, ⟨x, y, hTO⟩, g1, g2⟩ := st
    have e' : c = z ∨ c = TI ∨ c = TO ∨ c = i1 ∨ c = i2 := by simpa using hc
    rcases e' with q | q | q | q | q
    · rw [q]; exact ⟨_, hz, fun v q => nomatch q⟩
    · rw [q]; exact ⟨_, hTI, fun v q => nomatch q⟩
    · rw [q]; exact ⟨_, hTO, fun v q => nomatch q⟩
    · rw [q]; exact (SrcK.it_obj g1)
    · rw [q]; exact (SrcK.it_obj g2)
  · obtain ⟨hz, hTI, ⟨x, y, hTO⟩, g1, g2⟩ := st
    exact ⟨k z (by simp) _ hz, k TI (by simp) _ hTI, ⟨x, y, k TO (by simp) _ hTO⟩, (SrcK.it_keep g1) fun o q => k i1 (by simp) o q, (SrcK.it_keep g2) fun o q => k i2 (by simp) o q⟩
  · intro X hP hw hK hc i pins s σ H E I hf st hg
    subst hP hw hK
    obtain ⟨hz, hTI, hTO, g1, g2⟩ := st
    obtain ⟨hi, in1, in2⟩ := hg
    have hh : X.A.in1.handled = none := I.ok.hd hc
    obtain ⟨sf1, P1, S1, D1, s1, c1, e1, n1⟩ := (k1.draws I hh in1 (hf i1 (by simp)).1 g1).ex
    obtain ⟨sf2, P2, S2, D2, s2, c2, e2, n2⟩ := (k2.draws I hh in2 (hf i2 (by simp)).1 g2).ex
    refine item_new (K := fun x H' => ∃ T a b, x = .ref T ∧ H T = none ∧ H' = upd H T (.tup [a, b]) ∧ k1.at' i = some a ∧ k2.at' i = some b)
      (tn := fun h => IsZip h z TI TO .none ∧ IsTupOf2 h TI (.ref i1) (.ref i2) ∧ (∃ x y, IsTupOf2 h TO x y) ∧ k1.it i1 (i + 1) h ∧ k2.it i2 (i + 1) h) (GoesN.zip2 (sep hf n1 n2) D1 D2) hi ⟨hz, hTI, hTO, s1, s2⟩ I hf (fun b hb => ?_) (fun b hb => ?_) (fun h' q => ⟨q.1, q.2.1, q.2.2.1, c1 _ _ q.2.2.2.1, c2 _ _ q.2.2.2.2⟩) fun v h' ⟨T, x, y, ev, hT, px, py, p⟩ => ?_
    · have q : b = z ∨ b = TI ∨ b = TO ∨ b = i1 ∨ b = i2 := by simpa using hb
      obtain ⟨x, y, hTO⟩ := hTO
      rcases q with q | q | q | q | q
      · rw [q]; exact Heap.lt_size hz
      · rw [q]; exact Heap.lt_size hTI
      · rw [q]; exact Heap.lt_size hTO
      · rw [q]; obtain ⟨o, e, _⟩ := (SrcK.it_obj g1); exact Heap.lt_size e
      · rw [q]; obtain ⟨o, e, _⟩ := (SrcK.it_obj g2); exact Heap.lt_size e
    · have q : b = z ∨ b = TO ∨ b = i1 ∨ b = i2 := by simpa using hb
      rcases q with q | q | q | q <;> simp [q]
    · obtain ⟨a, ea, ra⟩ := e1 i x px
      obtain ⟨b, eb, rb⟩ := e2 i y py
      exact ⟨T, [x, y], [a, b], ev, hT, .cons ra (.cons rb .nil), by show 2 ≤ sizeLine; decide, p, fun hn => ⟨T, a, b, rfl, hn, rfl, ea, eb⟩⟩
  · intro X hP hw hK hc i pins s σ H E I hf st hg
    subst hP hw hK
    obtain ⟨hz, hTI, hTO, g1, g2⟩ := st
    obtain ⟨hi, in1, in2⟩ := hg
    subst hi
    have hh : X.A.in1.handled = none := I.ok.hd hc
    obtain ⟨sf1, P1, S1, D1, s1, c1, e1, n1⟩ := (k1.draws I hh in1 (hf i1 (by simp)).1 g1).ex
    obtain ⟨sf2, P2, S2, D2, s2, c2, e2, n2⟩ := (k2.draws I hh in2 (hf i2 (by simp)).1 g2).ex
    refine done_new (fp := [z, TI, TO, i1, i2]) (GoesN.zip2 (elts := elts) (x1 := kk) (pos := tpos) (sep hf n1 n2) D1 D2) ⟨hz, hTI, hTO, s1, s2⟩ I hf (fun b hb => ?_)
    have q : b = z ∨ b = TO ∨ b = i1 ∨ b = i2 := by simpa using hb
    rcases q with q | q | q | q <;> simp [q]

/-! ### zip of three -/
def ItZ3 (k1 k2 k3 : SrcK) : It :=
  ⟨fun i H => i < min (min k1.n k2.n) k3.n ∧ k1.isIn H ∧ k2.isIn H ∧ k3.isIn H, fun i H v H' => ∃ T x y u, v = .ref T ∧ H T = none ∧ H' = upd H T (.tup [x, y, u]) ∧ k1.at' i = some x ∧ k2.at' i = some y ∧ k3.at' i = some u, fun i H => i = min (min k1.n k2.n) k3.n ∧ k1.isIn H ∧ k2.isIn H ∧ k3.isIn H⟩
theorem turn_zip3 {P : Program} {w : World} {K : PySem.W.Frag} {elts : List Expr} {kk : Nat} {tpos : Pos} {z TI TO i1 i2 i3 : Addr} {k1 k2 k3 : SrcK} (h1 : TI ≠ z) (h2 : TO ≠ z) (h3 : TI ≠ TO) (h4 : TI ≠ i1) (h5 : TI ≠ i2) (h5' : TI ≠ i3) (h6 : z ≠ i1) (h7 : TO ≠ i1) (h8 : z ≠ i2) (h9 : TO ≠ i2) (h8' : z ≠ i3) (h9' : TO ≠ i3) (h10 : i1 ≠ i2) (h11 : i1 ≠ i3) (h12 : i2 ≠ i3) :
    Turn P w K (.Tuple elts kk tpos) (ItZ3 k1 k2 k3) [z, TI, TO, i1, i2, i3] z (fun i h => IsZip h z TI TO .none ∧ IsTupOf3 h TI (.ref i1) (.ref i2) (.ref i3) ∧ (∃ x y u, IsTupOf3 h TO x y u) ∧ k1.it i1 i h ∧ k2.it i2 i h ∧ k3.it i3 i h) := by
  have sep : ∀ {X : Cx} {pins : List (Addr × Obj)} {H : Hp} {sf1 sf2 sf3 : List Addr}, (∀ b ∈ [z, TI, TO, i1, i2, i3], FpOk X pins H b) → (∀ b ∈ sf1, H b ≠ none) → (∀ b ∈ sf2, H b ≠ none) → (∀ b ∈ sf3, H b ≠ none) → ZipSep3 z TI TO i1 i2 i3 (i1 :: sf1) (i2 :: sf2) (i3 :: sf3) := fun {X pins H sf1 sf2 sf3} hf n1 n2 n3 => by
    have nin : ∀ {b j : Addr} {sf : List Addr}, b ∈ [z, TI, TO, i1, i2, i3] → (∀ c ∈ sf, H c ≠ none) → b ≠ j → b ∉ j :: sf := fun {b j sf} hb hn hj hm => by
      rcases List.mem_cons.mp hm with q | q
      · exact hj q
      · exact hn b q (hf b hb).1
    exact { TIz := h1, TOz := h2, TITO := h3, TIi1 := h4, mem1 := List.mem_cons_self .., zf1 := nin (by simp) n1 h6, Tf1 := nin (by simp) n1 h7, TIi2 := h5, mem2 := List.mem_cons_self .., zf2 := nin (by simp) n2 h8, Tf2 := nin (by simp) n2 h9, TIi3 := h5', mem3 := List.mem_cons_self .., zf3 := nin (by simp) n3 h8', Tf3 := nin (by simp) n3 h9', sep1_2 := nin (by simp) n2 h10, sep1_3 := nin (by simp) n3 h11, sep2_1 := nin (by simp) n1 (Ne.symm h10), sep2_3 := nin (by simp) n3 h12, sep3_1 := nin (by simp) n1 (Ne.symm h11), sep3_2 := nin (by simp) n2 (Ne.symm h12) }
  refine ⟨by simp, fun i h st c hc => ?_, fun i h h' st k => ?_, ?_, ?_, fun A i s Q E st h => wpAny_pyIter_zip st.1 h⟩
  · obtain ⟨hz, hTI, ⟨x, y, u, hTO⟩, g1, g2, g3⟩ := st
    have e' : c = z ∨ c = TI ∨ c = TO ∨ c = i1 ∨ c = i2 ∨ c = i3 := by simpa using hc
    rcases e' with q | q | q | q | q | q
    · rw [q]; exact ⟨_, hz, fun v q => nomatch q⟩
    · rw [q]; exact ⟨_, hTI, fun v q => nomatch q⟩
    · rw [q]; exact ⟨_, hTO, fun v q => nomatch q⟩
    · rw [q]; exact (SrcK.it_obj g1)
    · rw [q]; exact (SrcK.it_obj g2)
    · rw [q]; exact (SrcK.it_obj g3)
  · obtain ⟨hz, hTI, ⟨x, y, u, hTO⟩, g1, g2, g3⟩ := st
    exact ⟨k z (by simp) _ hz, k TI (by simp) _ hTI, ⟨x, y, u, k TO (by simp) _ hTO⟩, (SrcK.it_keep g1) fun o q => k i1 (by simp) o q, (SrcK.it_keep g2) fun o q => k i2 (by simp) o q, (SrcK.it_keep g3) fun o q => k i3 (by simp) o q⟩
  · intro X hP hw hK hc i pins s σ H E I hf st hg
    subst hP hw hK
    obtain ⟨hz, hTI, hTO, g1, g2, g3⟩ := st
    obtain ⟨hi, in1, in2, in3⟩ := hg
    have hh : X.A.in1.handled = none := I.ok.hd hc
    obtain ⟨sf1, P1, S1, D1, s1, c1, e1, n1⟩ := (k1.draws I hh in1 (hf i1 (by simp)).1 g1).ex
    obtain ⟨sf2, P2, S2, D2, s2, c2, e2, n2⟩ := (k2.draws I hh in2 (hf i2 (by simp)).1 g2).ex
    obtain ⟨sf3, P3, S3, D3, s3, c3, e3, n3⟩ := (k3.draws I hh in3 (hf i3 (by simp)).1 g3).ex
    refine item_new (K := fun x H' => ∃ T a b c, x = .ref T ∧ H T = none ∧ H' = upd H T (.tup [a, b, c]) ∧ k1.at' i = some a ∧ k2.at' i = some b ∧ k3.at' i = some c)
      (tn := fun h => IsZip h z TI TO .none ∧ IsTupOf3 h TI (.ref i1) (.ref i2) (.ref i3) ∧ (∃ x y u, IsTupOf3 h TO x y u) ∧ k1.it i1 (i + 1) h ∧ k2.it i2 (i + 1) h ∧ k3.it i3 (i + 1) h) (GoesN.zip3 (sep hf n1 n2 n3) D1 D2 D3) hi ⟨hz, hTI, hTO, s1, s2, s3⟩ I hf (fun b hb => ?_) (fun b hb => ?_) (fun h' q => ⟨q.1, q.2.1, q.2.2.1, c1 _ _ q.2.2.2.1, c2 _ _ q.2.2.2.2.1, c3 _ _ q.2.2.2.2.2⟩) fun v h' ⟨T, x, y, u, ev, hT, px, py, pu, p⟩ => ?_
    · have q : b = z ∨ b = TI ∨ b = TO ∨ b = i1 ∨ b = i2 ∨ b = i3 := by simpa using hb
      obtain ⟨x, y, u, hTO⟩ := hTO
      rcases q with q | q | q | q | q | q
      · rw [q]; exact Heap.lt_size hz
      · rw [q]; exact Heap.lt_size hTI
      · rw [q]; exact Heap.lt_size hTO
      · rw [q]; obtain ⟨o, e, _⟩ := (SrcK.it_obj g1); exact Heap.lt_size e
      · rw [q]; obtain ⟨o, e, _⟩ := (SrcK.it_obj g2); exact Heap.lt_size e
      · rw [q]; obtain ⟨o, e, _⟩ := (SrcK.it_obj g3); exact Heap.lt_size e
    · have q : b = z ∨ b = TO ∨ b = i1 ∨ b = i2 ∨ b = i3 := by simpa using hb
      rcases q with q | q | q | q | q <;> simp [q]
    · obtain ⟨a, ea, ra⟩ := e1 i x px
      obtain ⟨b, eb, rb⟩ := e2 i y py
      obtain ⟨c, ec, rc⟩ := e3 i u pu
      exact ⟨T, [x, y, u], [a, b, c], ev, hT, .cons ra (.cons rb (.cons rc .nil)), by show 3 ≤ sizeLine; decide, p, fun hn => ⟨T, a, b, c, rfl, hn, rfl, ea, eb, ec⟩⟩
  · intro X hP hw hK hc i pins s σ H E I hf st hg
    subst hP hw hK
    obtain ⟨hz, hTI, hTO, g1, g2, g3⟩ := st
    obtain ⟨hi, in1, in2, in3⟩ := hg
    subst hi
    have hh : X.A.in1.handled = none := I.ok.hd hc
    obtain ⟨sf1, P1, S1, D1, s1, c1, e1, n1⟩ := (k1.draws I hh in1 (hf i1 (by simp)).1 g1).ex
    obtain ⟨sf2, P2, S2, D2, s2, c2, e2, n2⟩ := (k2.draws I hh in2 (hf i2 (by simp)).1 g2).ex
    obtain ⟨sf3, P3, S3, D3, s3, c3, e3, n3⟩ := (k3.draws I hh in3 (hf i3 (by simp)).1 g3).ex
    refine done_new (fp := [z, TI, TO, i1, i2, i3]) (GoesN.zip3 (elts := elts) (x1 := kk) (pos := tpos) (sep hf n1 n2 n3) D1 D2 D3) ⟨hz, hTI, hTO, s1, s2, s3⟩ I hf (fun b hb => ?_)
    have q : b = z ∨ b = TO ∨ b = i1 ∨ b = i2 ∨ b = i3 := by simpa using hb
    rcases q with q | q | q | q | q <;> simp [q]

/-! ### enumerate -/
def ItE (k : SrcK) : It :=
  ⟨fun i H => i < k.n ∧ k.isIn H, fun i H v H' => ∃ T x, v = .ref T ∧ H T = none ∧ H' = upd H T (.tup [.int (i : Nat), x]) ∧ k.at' i = some x, fun i H => i = k.n ∧ k.isIn H⟩
theorem turn_en {P : Program} {w : World} {K : PySem.W.Frag} {elts : List Expr} {kk : Nat} {tpos : Pos} {e it : Addr} {k : SrcK} (hne : e ≠ it) :
    Turn P w K (.Tuple elts kk tpos) (ItE k) [e, it] e (fun i h => (∃ old, IsEnum h e it (0 + (i : Int)) old) ∧ k.it it i h) := by
  have nin : ∀ {X : Cx} {pins : List (Addr × Obj)} {H : Hp} {sf : List Addr}, (∀ b ∈ [e, it], FpOk X pins H b) → (∀ b ∈ sf, H b ≠ none) → e ∉ it :: sf := fun {X pins H sf} hf n1 hm => by
    rcases List.mem_cons.mp hm with q | q
    · exact hne q
    · exact n1 e q (hf e (by simp)).1
  refine ⟨by simp, fun i h st c hc => ?_, fun i h h' st k' => ?_, ?_, ?_, fun A i s Q E st h => let ⟨⟨_, he⟩, _⟩ := st; wpAny_pyIter_enum he h⟩
  · obtain ⟨⟨old, he⟩, g⟩ := st
    have e' : c = e ∨ c = it := by simpa using hc
    rcases e' with q | q
    · rw [q]; exact ⟨_, he, fun v q => nomatch q⟩
    · rw [q]; exact (SrcK.it_obj g)
  · obtain ⟨⟨old, he⟩, g⟩ := st
    exact ⟨⟨old, k' e (by simp) _ he⟩, (SrcK.it_keep g) fun o q => k' it (by simp) o q⟩
  · intro X hP hw hK hc i pins s σ H E I hf st hg
    subst hP hw hK
    obtain ⟨⟨old, he⟩, g⟩ := st
    obtain ⟨hi, in1⟩ := hg
    have hh : X.A.in1.handled = none := I.ok.hd hc
    obtain ⟨sf1, P1, S1, D1, s1, c1, e1, n1⟩ := (k.draws I hh in1 (hf it (by simp)).1 g).ex
    refine item_new (K := fun x H' => ∃ T a, x = .ref T ∧ H T = none ∧ H' = upd H T (.tup [.int (i : Nat), a]) ∧ k.at' i = some a)
      (tn := fun h => (∃ old, IsEnum h e it (0 + ((i + 1 : Nat) : Int)) old) ∧ k.it it (i + 1) h) (GoesN.enumFrom 0 D1 e hne (nin hf n1) (List.mem_cons_self ..)) hi ⟨⟨old, he⟩, s1⟩ I hf (fun b hb => ?_) (fun b hb => hb) (fun h' q => ⟨q.1, c1 _ _ q.2⟩) fun v h' ⟨T, t, x, ev, hT, px, p⟩ => ?_
    · have q : b = e ∨ b = it := by simpa using hb
      rcases q with q | q
      · rw [q]; exact Heap.lt_size he
      · rw [q]; obtain ⟨o, e, _⟩ := (SrcK.it_obj g); exact Heap.lt_size e
    · obtain ⟨a, ea, ra⟩ := e1 i x px
      rw [Int.zero_add] at p
      exact ⟨T, [.int (i : Nat) t, x], [.int (i : Nat), a], ev, hT, .cons ⟨t, rfl⟩ (.cons ra .nil), by show 2 ≤ sizeLine; decide, p, fun hn => ⟨T, a, rfl, hn, rfl, ea⟩⟩
  · intro X hP hw hK hc i pins s σ H E I hf st hg
    subst hP hw hK
    obtain ⟨⟨old, he⟩, g⟩ := st
    obtain ⟨hi, in1⟩ := hg
    subst hi
    have hh : X.A.in1.handled = none := I.ok.hd hc
    obtain ⟨sf1, P1, S1, D1, s1, c1, e1, n1⟩ := (k.draws I hh in1 (hf it (by simp)).1 g).ex
    exact done_new (fp := [e, it]) (GoesN.enumFrom (elts := elts) (x1 := kk) (pos := tpos) 0 D1 e hne (nin hf n1) (List.mem_cons_self ..)) ⟨⟨old, he⟩, s1⟩ I hf (fun b hb => hb)
end Dl
set_option autoImplicit true
/-! The data layer: the calls that make what is walked. -/
namespace Dl
open PySem PySem.Spec PyProof.Rows L2 TL

set_option maxHeartbeats 1000000 in
theorem meets_enumerate_newB1 {v : Value} {o : Obj} {H : Heap → Prop} (B : Begins v o H) :
    Meets (Builtin.«enumerate.__new__» ⟨[.type "enumerate", v], []⟩) (fun _ R s => H s.heap ∧
      R (.ok (.ret (.ref (s.heap.push o).objs.size))) { s with heap := (s.heap.push o).push { cls := .type "enumerate", data := .fields #[.none, .bool false, .ref s.heap.objs.size, rawInt 0, .none, .none] } }) :=
  .of_wp fun prog w A R s h => by
    obtain ⟨hp, g, d, tk, os⟩ := s; obtain ⟨h1, h⟩ := h
    have hsub := sub_enumerate
    have q1 : ∀ {A' : Around} {E : Value → Shared → Prop} {Q : Value → Shared → Prop}, Q (.ref hp.objs.size) ⟨hp.push o, g, d, tk, os⟩ → wpAny (model prog w) A' (pyIter v) Q E ⟨hp, g, d, tk, os⟩ :=
      fun q => B.iter prog w _ _ ⟨hp, g, d, tk, os⟩ _ h1 q
    wp_walk using q1
    refine wpAny_stack_any fun st => wpAny_pure ?_
    split
    · rename_i c _ _ _ _ _
      cases (c == Value.type "enumerate")
      · wp_walk using q1
        exact ⟨_, rfl, h⟩
      · wp_walk using q1
        exact ⟨_, rfl, h⟩
    · wp_walk using q1
      exact ⟨_, rfl, h⟩
section
variable {prog : Program} {w : World} {A : Around} {E : Value → Shared → Prop} {s : Shared}
theorem enum_begins1 {v : Value} {o : Obj} {H : Heap → Prop} {Q : Value → Shared → Prop} (B : Begins v o H) (h1 : H s.heap)
    (h : ∀ h', IsEnum h' (s.heap.objs.size + 1) s.heap.objs.size 0 .none → h'.get? s.heap.objs.size = some o → h'.objs.size = s.heap.objs.size + 2 →
      (∀ b o, s.heap.get? b = some o → h'.get? b = some o) → Q (.ref (s.heap.objs.size + 1)) { s with heap := h' }) :
    wpAny (model prog w) A (call (.type "enumerate") [v]) Q E s := by
  refine callType_new F.called_enumerate (by decide) (F.typeCall_enumerate_1 _) (F.newCall_enumerate_1 _) (fun obj => F.args_object_init_2 obj _) F.entry_enumerate_new
    (meets_enumerate_newB1 B) ⟨h1, ?_⟩
  have hz : (s.heap.push o).objs.size = s.heap.objs.size + 1 := Heap.size_push ..
  show _ ∧ _
  rw [hz]
  have he : IsEnum ((s.heap.push o).push { cls := .type "enumerate", data := .fields #[.none, .bool false, .ref s.heap.objs.size, rawInt 0, .none, .none] }) (s.heap.objs.size + 1) s.heap.objs.size 0 .none := by
    have := Heap.get?_push_size (s.heap.push o) (o := { cls := .type "enumerate", data := .fields #[.none, .bool false, .ref s.heap.objs.size, rawInt 0, .none, .none] }) rfl
    rw [hz] at this; exact this
  refine ⟨⟨_, he, rfl⟩, h _ he (Heap.get?_push_of_some _ (Heap.get?_push_size _ B.free)) (by rw [Heap.size_push, hz]) fun b o x => Heap.get?_push_of_some _ (Heap.get?_push_of_some _ x)⟩
end
/-- how a source begins -/
theorem SrcK.begins {X : Cx} {pins : List (Addr × Obj)} {σ : L2.St} {H : Hp} {s : Shared} (k : SrcK) (I : Inv X pins σ H s) (hin : k.isIn H) {u : Value} (r : RelV k.val u) :
    ∃ o G, Begins u o G ∧ G s.heap ∧ ∀ h' it, h'.get? it = some o → k.it it 0 h' := by
  cases k with
  | lst a xs =>
    have hin : H a = some (.lst xs) := hin
    obtain rfl : u = .ref a := r
    obtain ⟨its, rv, p, hz⟩ := I.list (.of hin)
    exact ⟨_, _, begins_list a its.toArray, p.isList, fun h' it e => ⟨_, e, rfl, rfl⟩⟩
  | tup a xs =>
    have hin : H a = some (.tup xs) := hin
    obtain rfl : u = .ref a := r
    obtain ⟨its, rv, p, hz⟩ := I.tuple (.of hin)
    exact ⟨_, _, begins_tuple a its.toArray, p, fun h' it e => ⟨_, e, rfl, rfl⟩⟩
  | txt z =>
    obtain ⟨t, rfl⟩ := r
    exact ⟨_, _, begins_text z t, trivial, fun h' it e => ⟨t, _, e, rfl, rfl⟩⟩
def iZ2 (ta : TA) : TI := fun σ H R => ta σ H fun vs H1 => ∃ k1 k2 : SrcK, vs = [k1.val, k2.val] ∧ k1.isIn H1 ∧ k2.isIn H1 ∧ R (ItZ2 k1 k2) H1
def iZ3 (ta : TA) : TI := fun σ H R => ta σ H fun vs H1 => ∃ k1 k2 k3 : SrcK, vs = [k1.val, k2.val, k3.val] ∧ k1.isIn H1 ∧ k2.isIn H1 ∧ k3.isIn H1 ∧ R (ItZ3 k1 k2 k3) H1
def iEn (ta : TA) : TI := fun σ H R => ta σ H fun vs H1 => ∃ k1 : SrcK, vs = [k1.val] ∧ k1.isIn H1 ∧ R (ItE k1) H1
section
variable {X : Cx} {e e2 e3 : Expr} {ta : TA} {p pos tpos : Pos} {elts : List Expr} {kk : Nat}
theorem pi_z2 (hg : Gl X "zip") (hm : X.mg "zip" = none) (ha : PA X [e, e2] ta)
    (hs : starEach [e, e2] X.env = (false, eval e X.env) :: starEach [e2] X.env := by rfl) (hpl : (backTo pos (starEach [e2] X.env)).any (·.1) = false := by rfl) :
    PI X (.Tuple elts kk tpos) (.Call (.Name "zip" p) [e, e2] [] pos) (iZ2 ta) := by
  refine ⟨fun pins s σ H R I h => ?_⟩
  refine Call_ (ld_blt I hg hm PyProof.Rows.boot_zip (PyProof.Rows.callWith_type1 (thn (ha.run pos pins s σ H _ I h) fun us s1 ⟨vs, H1, I1, r1, q1⟩ => ?_) hs hpl))
  obtain ⟨k1, k2, ex, in1, in2, q⟩ := q1
  subst ex
  cases r1 with
  | cons r rr =>
    cases rr with
    | cons r' rr =>
      cases rr
      obtain ⟨o1, G1, B1, g1, j1⟩ := k1.begins I1 in1 r
      obtain ⟨o2, G2, B2, g2, j2⟩ := k2.begins I1 in2 r'
      refine zip_begins2 B1 B2 g1 g2 fun h' hz hTI hTO h1 h2 hsz hk => wpAny_pyIter_zip hz ?_
      have I2 : Inv X pins σ H1 { s1 with heap := h' } := I1.kept (t' := s1.toks) hk
      have ne : ∀ i j : Nat, i ≠ j → s1.heap.objs.size + i ≠ s1.heap.objs.size + j := fun i j n e => n (Nat.add_left_cancel e)
      refine ⟨s1.heap.objs.size + 4, [s1.heap.objs.size + 4, s1.heap.objs.size + 2, s1.heap.objs.size + 3, s1.heap.objs.size, s1.heap.objs.size + 1], _, _, H1, rfl, I2,
        turn_zip2 (ne 2 4 (by decide)) (ne 3 4 (by decide)) (ne 2 3 (by decide)) (ne 2 0 (by decide)) (ne 2 1 (by decide)) (ne 4 0 (by decide)) (ne 3 0 (by decide)) (ne 4 1 (by decide)) (ne 3 1 (by decide)) (ne 0 1 (by decide)), ⟨hz, hTI, ⟨_, _, hTO⟩, j1 _ _ h1, j2 _ _ h2⟩, fun c hcm => ?_, q⟩
      have e' : c = s1.heap.objs.size + 4 ∨ c = s1.heap.objs.size + 2 ∨ c = s1.heap.objs.size + 3 ∨ c = s1.heap.objs.size ∨ c = s1.heap.objs.size + 1 := by simpa using hcm
      have hle : s1.heap.objs.size ≤ c := by
        rcases e' with z | z | z | z | z
        · rw [z]; exact Nat.le_add_right _ _
        · rw [z]; exact Nat.le_add_right _ _
        · rw [z]; exact Nat.le_add_right _ _
        · rw [z]; exact Nat.le_refl _
        · rw [z]; exact Nat.le_add_right _ _
      exact I1.fpOk hle (I1.hok.fresh hle)
theorem pi_z3 (hg : Gl X "zip") (hm : X.mg "zip" = none) (ha : PA X [e, e2, e3] ta)
    (hs : starEach [e, e2, e3] X.env = (false, eval e X.env) :: starEach [e2, e3] X.env := by rfl) (hpl : (backTo pos (starEach [e2, e3] X.env)).any (·.1) = false := by rfl) :
    PI X (.Tuple elts kk tpos) (.Call (.Name "zip" p) [e, e2, e3] [] pos) (iZ3 ta) := by
  refine ⟨fun pins s σ H R I h => ?_⟩
  refine Call_ (ld_blt I hg hm PyProof.Rows.boot_zip (PyProof.Rows.callWith_type1 (thn (ha.run pos pins s σ H _ I h) fun us s1 ⟨vs, H1, I1, r1, q1⟩ => ?_) hs hpl))
  obtain ⟨k1, k2, k3, ex, in1, in2, in3, q⟩ := q1
  subst ex
  cases r1 with
  | cons r rr =>
    cases rr with
    | cons r' rr =>
      cases rr with
      | cons r'' rr =>
        cases rr
        obtain ⟨o1, G1, B1, g1, j1⟩ := k1.begins I1 in1 r
        obtain ⟨o2, G2, B2, g2, j2⟩ := k2.begins I1 in2 r'
        obtain ⟨o3, G3, B3, g3, j3⟩ := k3.begins I1 in3 r''
        refine zip_begins3 B1 B2 B3 g1 g2 g3 fun h' hz hTI hTO h1 h2 h3 hsz hk => wpAny_pyIter_zip hz ?_
        have I2 : Inv X pins σ H1 { s1 with heap := h' } := I1.kept (t' := s1.toks) hk
        have ne : ∀ i j : Nat, i ≠ j → s1.heap.objs.size + i ≠ s1.heap.objs.size + j := fun i j n e => n (Nat.add_left_cancel e)
        refine ⟨s1.heap.objs.size + 5, [s1.heap.objs.size + 5, s1.heap.objs.size + 3, s1.heap.objs.size + 4, s1.heap.objs.size, s1.heap.objs.size + 1, s1.heap.objs.size + 2], _, _, H1, rfl, I2,
          turn_zip3 (ne 3 5 (by decide)) (ne 4 5 (by decide)) (ne 3 4 (by decide)) (ne 3 0 (by decide)) (ne 3 1 (by decide)) (ne 3 2 (by decide)) (ne 5 0 (by decide)) (ne 4 0 (by decide)) (ne 5 1 (by decide)) (ne 4 1 (by decide)) (ne 5 2 (by decide)) (ne 4 2 (by decide)) (ne 0 1 (by decide)) (ne 0 2 (by decide)) (ne 1 2 (by decide)), ⟨hz, hTI, ⟨_, _, _, hTO⟩, j1 _ _ h1, j2 _ _ h2, j3 _ _ h3⟩, fun c hcm => ?_, q⟩
        have e' : c = s1.heap.objs.size + 5 ∨ c = s1.heap.objs.size + 3 ∨ c = s1.heap.objs.size + 4 ∨ c = s1.heap.objs.size ∨ c = s1.heap.objs.size + 1 ∨ c = s1.heap.objs.size + 2 := by simpa using hcm
        have hle : s1.heap.objs.size ≤ c := by
          rcases e' with z | z | z | z | z | z
          · rw [z]; exact Nat.le_add_right _ _
          · rw [z]; exact Nat.le_add_right _ _
          · rw [z]; exact Nat.le_add_right _ _
          · rw [z]; exact Nat.le_refl _
          · rw [z]; exact Nat.le_add_right _ _
          · rw [z]; exact Nat.le_add_right _ _
        exact I1.fpOk hle (I1.hok.fresh hle)
theorem pi_en (hg : Gl X "enumerate") (hm : X.mg "enumerate" = none) (ha : PA X [e] ta) (hs : starEach [e] X.env = [(false, eval e X.env)] := by rfl) :
    PI X (.Tuple elts kk tpos) (.Call (.Name "enumerate" p) [e] [] pos) (iEn ta) := by
  refine ⟨fun pins s σ H R I h => ?_⟩
  refine Call_ (ld_blt I hg hm boot_enumerate (PyProof.Rows.callWith_type1 (thn (ha.run pos pins s σ H _ I h) fun us s1 ⟨vs, H1, I1, r1, q1⟩ => ?_) hs rfl))
  obtain ⟨k1, ex, in1, q⟩ := q1
  subst ex
  cases r1 with
  | cons r rr =>
    cases rr
    obtain ⟨o1, G1, B1, g1, j1⟩ := k1.begins I1 in1 r
    refine enum_begins1 B1 g1 fun h' he hit hsz hk => wpAny_pyIter_enum he ?_
    have I2 : Inv X pins σ H1 { s1 with heap := h' } := I1.kept (t' := s1.toks) hk
    refine ⟨s1.heap.objs.size + 1, [s1.heap.objs.size + 1, s1.heap.objs.size], _, _, H1, rfl, I2, turn_en (Nat.succ_ne_self _), ⟨⟨.none, he⟩, j1 _ _ hit⟩, fun b hb => ?_, q⟩
    have e' : b = s1.heap.objs.size + 1 ∨ b = s1.heap.objs.size := by simpa using hb
    have hle : s1.heap.objs.size ≤ b := by
      rcases e' with z | z
      · rw [z]; exact Nat.le_add_right _ _
      · rw [z]; exact Nat.le_refl _
    exact I1.fpOk hle (I1.hok.fresh hle)
/-- a list, a tuple, a text as it stands -/
def ItA (K : PySem.W.Frag) : SrcK → It
  | .lst a _ => Itl K a
  | .tup a _ => Itt K a
  | .txt z => Its z
def iAny (K : PySem.W.Frag) (te : TE) : TI := fun σ H R => te σ H fun v H1 => ∃ k : SrcK, v = k.val ∧ k.isIn H1 ∧ R (ItA K k) H1
theorem pi_any {tg : Expr} {te : TE} (he : PE X e te) : PI X tg e (iAny X.K te) := by
  refine ⟨fun pins s σ H R I h => ?_⟩
  refine thn (he.run pins s σ H _ I h) fun v s1 ⟨x, H1, I1, r1, q1⟩ => ?_
  obtain ⟨k, e, hin, q⟩ := q1
  subst e
  cases k with
  | lst a xs =>
    have hin : H1 a = some (.lst xs) := hin
    obtain rfl : v = .ref a := r1
    obtain ⟨its, rv, p, hz⟩ := I1.list (.of hin)
    exact wpAny_pyIter_list p.isList (pi_one (tk := s1.toks) I1 _ (turn_list a _) ⟨_, Heap.get?_push_size _ rfl, rfl, rfl⟩ q)
  | tup a xs =>
    have hin : H1 a = some (.tup xs) := hin
    obtain rfl : v = .ref a := r1
    obtain ⟨its, rv, p, hz⟩ := I1.tuple (.of hin)
    exact wpAny_pyIter_tuple (show s1.heap.IsTuple a its.toArray from p) (pi_one (tk := s1.toks) I1 _ (turn_tuple a _) ⟨_, Heap.get?_push_size _ rfl, rfl, rfl⟩ q)
  | txt x =>
    obtain ⟨t, rfl⟩ := r1
    cases ha : x.cps.all (· < 128)
    · exact wpAny_pyIter_wide ha (pi_one (tk := s1.toks) I1 _ (turn_str _ x t "str_iterator" (.inr rfl)) ⟨_, Heap.get?_push_size _ rfl, rfl, rfl⟩ q)
    · exact wpAny_pyIter_ascii ha (pi_one (tk := s1.toks) I1 _ (turn_str _ x t "str_ascii_iterator" (.inl rfl)) ⟨_, Heap.get?_push_size _ rfl, rfl, rfl⟩ q)
end

/-! ### the readings -/
def itD : D → Option (List D)
  | .lst l => some l
  | .tup l => some l
  | .str z => some (z.map fun c => .str [c])
  | _ => none
def sIt (f : SE) : SL := fun r m => bindR (f r m) fun d m => ofO (itD d) m
section
variable {X : Cx} {w : Wi} {a b c e tg : Expr} {es : List Expr} {p pos tpos : Pos} {elts : List Expr} {kk : Nat} {fa f : SE} {g : SL}
/-- what a source's items are -/
theorem src_of {F : Hp} {io : List Addr} {d : D} {v : V} {l : List D} (h : Rep F io d v) (e : itD d = some l) : ∃ k : SrcK, v = k.val ∧ (∀ F' H, Sub F F' → Sub F' H → k.isIn H) ∧ l.length = k.n ∧ ∀ i u, k.at' i = some u → ∃ q, l[i]? = some q ∧ Rep F io q u := by
  cases h with
  | lst e1 r =>
    rename_i a ds vs
    obtain rfl : ds = l := Option.some.inj e
    exact ⟨.lst a vs, rfl, fun F' H s1 s2 => s2 _ _ (s1 _ _ e1), r.length, fun i u q => r.getV q⟩
  | tup e1 r =>
    rename_i a ds vs
    obtain rfl : ds = l := Option.some.inj e
    exact ⟨.tup a vs, rfl, fun F' H s1 s2 => s2 _ _ (s1 _ _ e1), r.length, fun i u q => r.getV q⟩
  | str z =>
    obtain rfl : z.map (fun c => D.str [c]) = l := Option.some.inj e
    refine ⟨.txt ⟨z.toArray⟩, rfl, fun F' H s1 s2 => trivial, by simp [SrcK.n], fun i u q => ?_⟩
    have q : (z.toArray[i]?).map (fun c => V.str ⟨#[c]⟩) = some u := q
    have q : (z[i]?).map (fun c => V.str ⟨#[c]⟩) = some u := by simpa using q
    cases k : z[i]? with
    | none => rw [k] at q; cases q
    | some c =>
      rw [k] at q
      cases q
      exact ⟨.str [c], by simp [k], .str [c]⟩
  | _ => cases e
theorem Serves.any {F : Hp} {io : List Addr} {l : List D} {k : SrcK} {K : PySem.W.Frag} (hin : ∀ F' H, Sub F F' → Sub F' H → k.isIn H) (hn : l.length = k.n) (hat : ∀ i u, k.at' i = some u → ∃ q, l[i]? = some q ∧ Rep F io q u) : Serves F io (ItA K k) l := by
  have yl : ∀ F' io' H i d v H', Sub F F' → Pfx io io' → l[i]? = some d → H' = H → k.at' i = some v → Yl F' io' H d v H' := fun F' io' H i d v H' s1 s2 e1 e2 e3 => by
    subst e2
    obtain ⟨q, e4, r⟩ := hat i v e3
    rw [e1] at e4
    cases e4
    exact .here (r.mono s1 s2)
  cases k with
  | lst a xs =>
    have hn : l.length = xs.length := hn
    exact .of_walk (walk_list (xs := xs)) hn.symm (fun F' H s1 s2 => SqL.of (hin F' H s1 s2)) fun F' io' H i d v H' s1 s2 s3 e y => yl F' io' H i d v H' s1 s2 e y.1 y.2
  | tup a xs =>
    have hn : l.length = xs.length := hn
    exact .of_walk (walk_tup (xs := xs)) hn.symm (fun F' H s1 s2 => SqT.of (hin F' H s1 s2)) fun F' io' H i d v H' s1 s2 s3 e y => yl F' io' H i d v H' s1 s2 e y.1 y.2
  | txt z =>
    have hn : l.length = z.cps.size := hn
    exact .of_walk walk_str hn.symm (fun F' H s1 s2 => trivial) fun F' io' H i d v H' s1 s2 s3 e ⟨y1, c, y2, y3⟩ => yl F' io' H i d v H' s1 s2 e y1 (by show (z.cps[i]?).map _ = _; rw [y2, y3]; rfl)
theorem di_any (h : DE X w e f) : DI X w tg e (sIt f) := PI.imp (pi_any h) fun s H R ⟨x, r, m, Rl, q⟩ => by
  refine rd_bind Rl q fun d m1 v y H1 R1 p1 st1 q1 => ?_
  cases k : itD d with
  | none => rw [k] at q1; exact q1.elim
  | some l =>
    rw [k] at q1
    obtain ⟨z, ev, hin, hn, hat⟩ := src_of p1 k
    exact ⟨z, ev, hin _ _ (.refl _) R1.sub, q1 _ y H1 R1 (Serves.any hin hn hat) .refl⟩
def sZ2 (g : SL) : SL := fun r m => bindR (g r m) fun ds m => match ds with
  | [a, b] => match itD a, itD b with
    | some l, some k => .ok (List.zipWith (fun x y => .tup [x, y]) l k) m
    | _, _ => .bad
  | _ => .bad
def sZ3 (g : SL) : SL := fun r m => bindR (g r m) fun ds m => match ds with
  | [a, b, c] => match itD a, itD b, itD c with
    | some l, some k, some j => .ok (List.zipWith (fun x (y : D × D) => .tup [x, y.1, y.2]) l (k.zip j)) m
    | _, _, _ => .bad
  | _ => .bad
/-- the pairs of places and items from a number on -/
def enumL : Nat → List D → List D
  | _, [] => []
  | i, d :: l => .tup [.int i, d] :: enumL (i + 1) l
theorem enumL_length : ∀ (l : List D) (n : Nat), (enumL n l).length = l.length
  | [], _ => rfl
  | _ :: l, n => by simp [enumL, enumL_length l]
theorem enumL_get : ∀ (l : List D) (n i : Nat), (enumL n l)[i]? = (l[i]?).map fun d => .tup [.int (n + i : Nat), d]
  | [], n, i => by simp [enumL]
  | d :: l, n, 0 => by simp [enumL]
  | d :: l, n, i + 1 => by
    have h := enumL_get l (n + 1) i
    have e1 : n + 1 + i = n + (i + 1) := by omega
    rw [e1] at h
    simpa [enumL] using h
def sEn (g : SL) : SL := fun r m => bindR (g r m) fun ds m => match ds with
  | [a] => match itD a with
    | some l => .ok (enumL 0 l) m
    | _ => .bad
  | _ => .bad
theorem di_zip (hg : Gl X "zip") (hm : X.mg "zip" = none) (ha : DA X w [a, b] g)
    (hs : starEach [a, b] X.env = (false, eval a X.env) :: starEach [b] X.env := by rfl) (hpl : (backTo pos (starEach [b] X.env)).any (·.1) = false := by rfl) :
    DI X w (.Tuple elts kk tpos) (.Call (.Name "zip" p) [a, b] [] pos) (sZ2 g) := PI.imp (pi_z2 hg hm ha hs hpl) fun s H R ⟨x, r, m, Rl, q⟩ => by
  refine rd_bind Rl q fun ds m1 vs y H1 R1 p1 st1 q1 => ?_
  split at q1
  · rename_i d1 d2
    cases p1 with
    | cons r1 t =>
      cases t with
      | cons r2 t =>
        cases t
        split at q1
        · rename_i l k e1 e2
          obtain ⟨z1, ev1, in1, n1, at1⟩ := src_of r1 e1
          obtain ⟨z2, ev2, in2, n2, at2⟩ := src_of r2 e2
          refine ⟨z1, z2, by rw [ev1, ev2], in1 _ _ (.refl _) R1.sub, in2 _ _ (.refl _) R1.sub, q1 _ y H1 R1 ⟨fun F' H i s1 s2 hi => ⟨?_, in1 F' H s1 s2, in2 F' H s1 s2⟩, fun F' H s1 s2 => ⟨?_, in1 F' H s1 s2, in2 F' H s1 s2⟩, fun F' io' H i d v H' s1 s2 s3 e hy => ?_⟩ .refl⟩
          · rw [List.length_zipWith] at hi
            omega
          · rw [List.length_zipWith]
            omega
          · obtain ⟨T, x1, x2, rfl, hT, rfl, a1, a2⟩ := hy
            obtain ⟨q1, e3, c1⟩ := at1 i x1 a1
            obtain ⟨q2, e4, c2⟩ := at2 i x2 a2
            rw [List.getElem?_zipWith, e3, e4] at e
            cases e
            exact .new hT (.cons (c1.mono s1 s2) (.cons (c2.mono s1 s2) .nil))
        · exact q1.elim
  · exact q1.elim
theorem di_zip3 (hg : Gl X "zip") (hm : X.mg "zip" = none) (ha : DA X w [a, b, c] g)
    (hs : starEach [a, b, c] X.env = (false, eval a X.env) :: starEach [b, c] X.env := by rfl) (hpl : (backTo pos (starEach [b, c] X.env)).any (·.1) = false := by rfl) :
    DI X w (.Tuple elts kk tpos) (.Call (.Name "zip" p) [a, b, c] [] pos) (sZ3 g) := PI.imp (pi_z3 hg hm ha hs hpl) fun s H R ⟨x, r, m, Rl, q⟩ => by
  refine rd_bind Rl q fun ds m1 vs y H1 R1 p1 st1 q1 => ?_
  split at q1
  · rename_i d1 d2 d3
    cases p1 with
    | cons r1 t =>
      cases t with
      | cons r2 t =>
        cases t with
        | cons r3 t =>
          cases t
          split at q1
          · rename_i l k j e1 e2 e3
            obtain ⟨z1, ev1, in1, n1, at1⟩ := src_of r1 e1
            obtain ⟨z2, ev2, in2, n2, at2⟩ := src_of r2 e2
            obtain ⟨z3, ev3, in3, n3, at3⟩ := src_of r3 e3
            refine ⟨z1, z2, z3, by rw [ev1, ev2, ev3], in1 _ _ (.refl _) R1.sub, in2 _ _ (.refl _) R1.sub, in3 _ _ (.refl _) R1.sub, q1 _ y H1 R1 ⟨fun F' H i s1 s2 hi => ⟨?_, in1 F' H s1 s2, in2 F' H s1 s2, in3 F' H s1 s2⟩, fun F' H s1 s2 => ⟨?_, in1 F' H s1 s2, in2 F' H s1 s2, in3 F' H s1 s2⟩, fun F' io' H i d v H' s1 s2 s3 e hy => ?_⟩ .refl⟩
            · rw [List.length_zipWith, List.length_zip] at hi
              omega
            · rw [List.length_zipWith, List.length_zip]
              omega
            · obtain ⟨T, x1, x2, x3, rfl, hT, rfl, a1, a2, a3⟩ := hy
              obtain ⟨q1, e4, c1⟩ := at1 i x1 a1
              obtain ⟨q2, e5, c2⟩ := at2 i x2 a2
              obtain ⟨q3, e6, c3⟩ := at3 i x3 a3
              have ez : (k.zip j)[i]? = some (q2, q3) := by rw [List.getElem?_zip_eq_some]; exact ⟨e5, e6⟩
              rw [List.getElem?_zipWith, e4, ez] at e
              cases e
              exact .new hT (.cons (c1.mono s1 s2) (.cons (c2.mono s1 s2) (.cons (c3.mono s1 s2) .nil)))
          · exact q1.elim
  · exact q1.elim
theorem di_en (hg : Gl X "enumerate") (hm : X.mg "enumerate" = none) (ha : DA X w [a] g) (hs : starEach [a] X.env = [(false, eval a X.env)] := by rfl) :
    DI X w (.Tuple elts kk tpos) (.Call (.Name "enumerate" p) [a] [] pos) (sEn g) := PI.imp (pi_en hg hm ha hs) fun s H R ⟨x, r, m, Rl, q⟩ => by
  refine rd_bind Rl q fun ds m1 vs y H1 R1 p1 st1 q1 => ?_
  split at q1
  · rename_i d1
    cases p1 with
    | cons r1 t =>
      cases t
      split at q1
      · rename_i l e1
        obtain ⟨z1, ev1, in1, n1, at1⟩ := src_of r1 e1
        refine ⟨z1, by rw [ev1], in1 _ _ (.refl _) R1.sub, q1 _ y H1 R1 ⟨fun F' H i s1 s2 hi => ⟨?_, in1 F' H s1 s2⟩, fun F' H s1 s2 => ⟨?_, in1 F' H s1 s2⟩, fun F' io' H i d v H' s1 s2 s3 e hy => ?_⟩ .refl⟩
        · rw [enumL_length] at hi
          omega
        · rw [enumL_length]
          omega
        · obtain ⟨T, x1, rfl, hT, rfl, a1⟩ := hy
          obtain ⟨q1, e3, c1⟩ := at1 i x1 a1
          rw [enumL_get, e3] at e
          cases e
          rw [Nat.zero_add]
          exact .new hT (.cons (.int _) (.cons (c1.mono s1 s2) .nil))
      · exact q1.elim
  · exact q1.elim
/-- i, i + 1, .. (n of them) -/
def rangeL (i : Int) (n : Nat) : List D := (List.range n).map fun (k : Nat) => .int (i + k)
theorem Serves.range {F : Hp} {io : List Addr} {i : Int} {n : Nat} : Serves F io (Itr i n) (rangeL i n) :=
  .of_walk walk_range (by simp [rangeL]) (fun _ _ _ _ => trivial) fun F' io' H j d v H' s1 s2 s3 e ⟨y1, y2⟩ => by
    subst y1 y2
    have hj : j < n := by
      have := (List.getElem?_eq_some_iff.mp e).1
      simpa [rangeL] using this
    have e : some (D.int (i + (j : Nat))) = some d := by simpa [rangeL, hj] using e
    cases e
    exact .here (.int _)
/-- range: ends that are small -/
def inR (i : Int) : Bool := decide (-1073741824 ≤ i ∧ i ≤ 1073741824)
theorem inR_of {i : Int} (h : inR i = true) : -(2 ^ 62) ≤ i ∧ i < 2 ^ 62 := by
  have h := of_decide_eq_true h
  constructor <;> omega
def sRg (g : SL) : SL := fun r m => bindR (g r m) fun ds m => match ds with
  | [.int j] => if inR j = true then .ok (rangeL 0 j.toNat) m else .bad
  | _ => .bad
def sRg2 (g : SL) : SL := fun r m => bindR (g r m) fun ds m => match ds with
  | [.int i, .int j] => if inR i = true ∧ inR j = true then .ok (rangeL i (j - i).toNat) m else .bad
  | _ => .bad
theorem di_range (hg : Gl X "range") (hm : X.mg "range" = none) (ha : DA X w [a] g) (hs : starEach [a] X.env = [(false, eval a X.env)] := by rfl) :
    DI X w tg (.Call (.Name "range" p) [a] [] pos) (sRg g) := PI.imp (pi_range1 hg hm ha hs) fun s H R ⟨x, r, m, Rl, q⟩ => by
  refine rd_bind Rl q fun ds m1 vs y H1 R1 p1 st1 q1 => ?_
  split at q1
  · rename_i j
    cases p1 with
    | cons r1 t =>
      cases t
      cases r1
      obtain ⟨hj, q1⟩ := Fin.ite q1
      exact ⟨j, rfl, (inR_of hj).1, (inR_of hj).2, q1 _ y H1 R1 .range .refl⟩
  · exact q1.elim
theorem di_range2 (hg : Gl X "range") (hm : X.mg "range" = none) (ha : DA X w [a, b] g) (hs : starEach [a, b] X.env = [(false, eval a X.env), (false, eval b X.env)] := by rfl) (hs2 : starEach [b] X.env = [(false, eval b X.env)] := by rfl) :
    DI X w tg (.Call (.Name "range" p) [a, b] [] pos) (sRg2 g) := PI.imp (pi_range2 hg hm ha hs hs2) fun s H R ⟨x, r, m, Rl, q⟩ => by
  refine rd_bind Rl q fun ds m1 vs y H1 R1 p1 st1 q1 => ?_
  split at q1
  · rename_i i j
    cases p1 with
    | cons r1 t =>
      cases r1
      cases t with
      | cons r2 t =>
        cases t
        cases r2
        obtain ⟨⟨h1, h2⟩, q1⟩ := Fin.ite q1
        exact ⟨i, j, rfl, ⟨(inR_of h1).1, (inR_of h1).2, (inR_of h2).1, (inR_of h2).2⟩, q1 _ y H1 R1 .range .refl⟩
  · exact q1.elim
end
end Dl
set_option autoImplicit true
/-! The data layer: list comprehensions. -/
namespace Dl
open PySem PySem.Spec PyProof.Rows L2 TL

abbrev DTs (X : Cx) (w : Wi) (ifs : List Expr) (t : SB) : Prop := PTs X ifs (rd (PB (pw := pwOf X)) w t)
def Wi.no (w : Wi) : Wi := { w with W := fun _ _ _ _ => False }
def sYes : SB := fun _ m => .ok true m
/-- a refusal within is not told -/
def bindN {α β : Type} (r : R α) (f : α → Sto → R β) : R β := match r with
  | .ok a m => f a m
  | _ => .bad
def lcL (g : Gm) (t : SB) (f : SE) (r0 : Env) : List D → Sto → R (List D)
  | [], m => .ok [] m
  | d :: l, m => match g d r0 with
    | none => .bad
    | some r' => bindN (t r' m) fun b m => if b = true then bindN (f r' m) fun y m => bindN (lcL g t f r0 l m) fun ys m => .ok (y :: ys) m else lcL g t f r0 l m
/-- the slots wiped, none of which holds a thing of its own -/
def wipeE (r : Env) : List Nat → Env
  | [] => r
  | v :: vs => (wipeE r vs).set v none
def bare (r : Env) (v : Nat) : Bool := match r[v]? with
  | some (some (.lst _)) => false
  | some (some (.dct _ _)) => false
  | _ => true
def sLc (vs : List Nat) (i : SL) (g : Gm) (t : SB) (f : SE) : SE := fun r m => bindR (i r m) fun ds m => if ds.length ≤ LIM ∧ vs.all (bare r) = true then bindR (lcL g t f (wipeE r vs) ds m) fun l m => .ok (.lst l) m else .bad
section
variable {pw : PWd} {F F' : Hp} {io io' : List Addr} {H H' : Hp}
theorem Vars.hide : ∀ {r : Env} {s : L2.St} {A : List Addr} (i : Nat), Vars pw F io H r s A → bare r i = true → Vars pw F io H (r.set i none) (s.set i none) A
  | _, _, _, _, .nil, _ => .nil
  | _, _, _, 0, .skip t, _ => .skip t
  | _, _, _, 0, .cons c t, h => by
    cases c with
    | val p => exact .skip t
    | lst e p => cases h
    | dct e p => cases h
  | _, _, _, i + 1, .skip t, h => .skip (Vars.hide i t (by simpa [bare] using h))
  | _, _, _, i + 1, .cons c t, h => .cons c (Vars.hide i t (by simpa [bare] using h))
theorem bare_set {r : Env} {i v : Nat} (h : bare r i = true) : bare (r.set v none) i = true := by
  unfold bare at h ⊢
  by_cases e : v = i
  · subst e
    by_cases hl : v < r.length
    · rw [List.getElem?_set_self hl]
    · rw [List.getElem?_eq_none (by simpa using hl)]
  · rw [List.getElem?_set_ne e]
    exact h
theorem bare_wipe {r : Env} {i : Nat} (h : bare r i = true) : ∀ vs : List Nat, bare (wipeE r vs) i = true
  | [] => h
  | v :: vs => bare_set (bare_wipe h vs)
theorem Vars.wipe {r : Env} {s : L2.St} {A : List Addr} (h : Vars pw F io H r s A) : ∀ (vs : List Nat), vs.all (bare r) = true → Vars pw F io H (wipeE r vs) (wipe s vs) A
  | [], _ => h
  | v :: vs, hb => by
    simp only [List.all_cons, Bool.and_eq_true] at hb
    exact (Vars.wipe h vs hb.2).hide v (bare_wipe hb.1 vs)
end
theorem wipe_get {s : L2.St} (vs : List Nat) (j : Nat) (hj : j ∉ vs) : (wipe s vs)[j]? = s[j]? := by
  induction vs with
  | nil => rfl
  | cons v vs ih =>
    unfold wipe
    rw [List.getElem?_set_ne (fun e => hj (by simp [e])), ih fun z => hj (List.mem_cons_of_mem _ z)]
theorem wipe_at {s : L2.St} (vs : List Nat) (j : Nat) (hj : j ∈ vs) (hl : j < s.length) : (wipe s vs)[j]? = some none := by
  induction vs with
  | nil => cases hj
  | cons v vs ih =>
    unfold wipe
    by_cases e : v = j
    · subst e
      rw [List.getElem?_set_self (by rw [wipe_length]; exact hl)]
    · rw [List.getElem?_set_ne e]
      exact ih ((List.mem_cons.mp hj).resolve_left fun z => e z.symm)
theorem Only.wipe {ws vs : List Nat} {s s' : L2.St} (h : Only ws s s') (hw : ∀ i ∈ ws, i ∈ vs) : wipe s' vs = wipe s vs := by
  refine List.ext_getElem? fun j => ?_
  by_cases hj : j ∈ vs
  · by_cases hl : j < s.length
    · rw [wipe_at vs j hj (by rw [h.1]; exact hl), wipe_at vs j hj hl]
    · rw [List.getElem?_eq_none (by rw [wipe_length, h.1]; omega), List.getElem?_eq_none (by rw [wipe_length]; omega)]
  · rw [wipe_get vs j hj, wipe_get vs j hj]
    exact h.2 j fun z => hj (hw j z)
theorem wipe_wipe {s : L2.St} (vs : List Nat) : wipe (wipe s vs) vs = wipe s vs := by
  refine List.ext_getElem? fun j => ?_
  by_cases hj : j ∈ vs
  · by_cases hl : j < s.length
    · rw [wipe_at vs j hj (by rw [wipe_length]; exact hl), wipe_at vs j hj hl]
    · rw [List.getElem?_eq_none (by rw [wipe_length, wipe_length]; omega), List.getElem?_eq_none (by rw [wipe_length]; omega)]
  · rw [wipe_get vs j hj]
section
variable {X : Cx} {w : Wi} {c elt tg iter : Expr} {ifs : List Expr} {scope : Scope} {own : List (Str × Nat)} {pos spos : Pos} {i : SL} {g : Gm} {t : SB} {f : SE} {ws vs : List Nat} {pos : Pos}
theorem dts_nil : DTs X w [] sYes := ⟨fun pins s σ H Q I ⟨x, r, m, R, q⟩ => pts_nil.run pins s σ H Q I (Fin.here R q rfl)⟩
theorem dts_one (h : DT X w c t) : DTs X w [c] t := pts_one h
theorem Fin.okN {α β γ : Type} {P : PP pw γ β} {x : Sx pw} {r : Env} {s : L2.St} {H : Hp} {Q : β → Hp → Prop} {a : R α} {k : α → Sto → R γ} (h : Fin P w x r s H Q (bindN a k)) : ∃ b m, a = .ok b m ∧ Fin P w x r s H Q (k b m) := by
  cases a with
  | ok b m => exact ⟨b, m, rfl, h⟩
  | exc c v m => exact h.elim
  | bad => exact h.elim
theorem Fin.bindN {α β γ δ : Type} {P : PP pw δ β} {x : Sx pw} {r : Env} {s : L2.St} {H : Hp} {Q : β → Hp → Prop} {a : R α} {k : α → Sto → R γ} {g : γ → Sto → R δ} (h : Fin P w x r s H Q (bindR (bindN a k) g)) : Fin P w x r s H Q (bindN a fun b m => bindR (k b m) g) := by
  cases a with
  | ok b m => exact h
  | exc c v m => exact h.elim
  | bad => exact h.elim
/-- the list in the making -/
structure Mk (D : Addr) (y : Sx pw) (H : Hp) (acc : List Dl.D) (us : List V) : Prop where
  at' : H D = some (.lst us)
  rep : Reps y.F y.io acc us
  nA : D ∉ y.A1 ++ y.A2
  nF : y.F D = none
theorem Mk.stay {D : Addr} {y z : Sx pw} {H H' : Hp} {acc : List Dl.D} {us : List V} (h : Mk D y H acc us) (st : StE y H z H') : Mk D z H' acc us := by
  have n2 : D ∉ y.A2 := fun q => h.nA (List.mem_append_right _ q)
  refine ⟨st.st.keep D _ h.at' n2, h.rep.mono st.st.F st.st.io, fun q => ?_, ?_⟩
  · rcases List.mem_append.mp q with q | q
    · rw [st.a1] at q
      exact h.nA (List.mem_append_left _ q)
    · rcases st.st.newA D q with q | q
      · exact n2 q
      · rw [h.at'] at q; cases q
  · cases e : z.F D with
    | none => rfl
    | some o =>
      rcases st.st.newF D h.nF (by rw [e]; exact fun z => by cases z) with q | q
      · rw [h.at'] at q; cases q
      · exact absurd q n2
theorem Mk.put {D : Addr} {y : Sx pw} {H : Hp} {acc : List Dl.D} {us : List V} {d : Dl.D} {v : V} {r : Env} {m : Sto} {s : L2.St} (h : Mk D y H acc us) (R : Rel y r m s H) (p : Rep y.F y.io d v) :
    Mk D y (upd H D (.lst (us ++ [v]))) (acc ++ [d]) (us ++ [v]) ∧ Rel y r m s (upd H D (.lst (us ++ [v]))) ∧ ∀ {x : Sx pw} {H1 : Hp}, H1 D = none → StE x H1 y H → StE x H1 y (upd H D (.lst (us ++ [v]))) := by
  have ne1 : ∀ b ∈ y.A1, b ≠ D := fun b hb e => h.nA (List.mem_append_left _ (e ▸ hb))
  have ne2 : ∀ b ∈ y.A2, b ≠ D := fun b hb e => h.nA (List.mem_append_right _ (e ▸ hb))
  refine ⟨⟨upd_same, h.rep.append (.cons p .nil), h.nA, h.nF⟩, ⟨fun b o e => ?_, R.vars.mono (.refl _) (.refl _) fun b hb o e => by rw [upd_ne (ne1 b hb)]; exact e, R.sto.mono (.refl _) (.refl _) fun b hb o e => by rw [upd_ne (ne2 b hb)]; exact e, R.nd, R.nF⟩, fun {x H1} hD st => ⟨⟨st.st.F, st.st.io, fun b o e n => ?_, fun b e => ?_, st.st.newF, st.st.newA⟩, st.a1⟩⟩
  · rw [upd_ne (ne_of_none e h.nF)]
    exact R.sub _ _ e
  · rw [upd_ne (ne_of_none e hD)]
    exact st.st.keep b o e n
  · by_cases hb : b = D
    · subst hb; exact hD
    · rw [upd_ne hb] at e
      exact st.st.there b e
theorem Stp.trans {x y z : Sx pw} {H H1 H2 : Hp} (a : Stp x.A2 x H y H1) (b : Stp y.A2 y H1 z H2) : Stp x.A2 x H z H2 := by
  refine ⟨a.F.trans b.F, a.io.trans b.io, fun c o h n => b.keep c o (a.keep c o h n) fun q => ?_, fun c h => a.there c (b.there c h), fun c h1 h2 => ?_, fun c h => ?_⟩
  · rcases a.newA c q with q | q
    · exact n q
    · rw [h] at q; cases q
  · cases q : y.F c with
    | none =>
      rcases b.newF c q h2 with w | w
      · exact .inl (a.there c w)
      · exact (a.newA c w).elim .inr .inl
    | some o => exact a.newF c h1 (by rw [q]; exact fun z => by cases z)
  · rcases b.newA c h with q | q
    · exact a.newA c q
    · exact .inr (a.there c q)
/-- the slots as they were, a block's objects as they are -/
theorem Rel.back {x y : Sx pw} {r r' : Env} {m m' : Sto} {s s' : L2.St} {H H' : Hp} (R : Rel x r m s H) (st : Stp x.A2 x H y H') (R' : Rel y r' m' s' H') : Rel (y.w1 (x.A1)) r m' s H' ∧ StE x H (y.w1 (x.A1)) H' := by
  have k : Keep x.A1 H H' := fun b hb o e => st.keep b o e fun z => (List.nodup_append.mp R.nd).2.2 b hb b z rfl
  have hn : ∀ b ∈ x.A1, H b ≠ none := R.vars.there
  refine ⟨⟨R'.sub, R.vars.mono st.F st.io k, R'.sto, List.nodup_append.mpr ⟨(List.nodup_append.mp R.nd).1, (List.nodup_append.mp R'.nd).2.1, fun a ha b hb e => ?_⟩, fun b hb => ?_⟩, ⟨⟨st.F, st.io, st.keep, st.there, st.newF, st.newA⟩, rfl⟩⟩
  · subst e
    rcases st.newA a hb with z | z
    · exact (List.nodup_append.mp R.nd).2.2 a ha a z rfl
    · exact hn a ha z
  · rcases List.mem_append.mp hb with hb | hb
    · cases e : y.F b with
      | none => rfl
      | some o =>
        rcases st.newF b (R.nF b (List.mem_append_left _ hb)) (by rw [e]; exact fun z => by cases z) with z | z
        · exact absurd z (hn b hb)
        · exact absurd rfl ((List.nodup_append.mp R.nd).2.2 b hb b z)
    · exact R'.nF b (List.mem_append_right _ hb)
theorem lc_rd (hw : ∀ i ∈ ws, i ∈ vs) (s : L2.St) (H : Hp) (Q : VK) (q : rd (PV (pw := pw)) w (sLc vs i g t f) s H Q) : tLc (rd (PIt (pw := pw)) w i) (rdG pw ws g) (rd (PB (pw := pw)) w.no t) (rd (PV (pw := pw)) w.no f) vs s H Q := by
  obtain ⟨x, r, m, R, q⟩ := q
  refine rd_bind R q fun ds m1 J y1 H1 R1 sv st1 q1 => ?_
  obtain ⟨⟨hz, hb⟩, q1⟩ := Fin.ite q1
  intro D hD
  -- the state before turn i
  refine ⟨fun i n H => n = ds.length - i ∧ i ≤ ds.length ∧ ∃ y m acc us, Rel y (wipeE r vs) m (wipe s vs) H ∧ Mk D y H acc us ∧ acc.length ≤ i ∧ StE y1 H1 y H ∧ Fin PV w y1 r s H1 Q (bindR (lcL g t f (wipeE r vs) (ds.drop i) m) fun l m => .ok (.lst (acc ++ l)) m), ⟨ds.length, by simp, Nat.zero_le _, y1, m1, [], [], ?_, ⟨upd_same, .nil, fun z => R1.there D z hD, ?_⟩, Nat.zero_le _, ?_, by simpa using q1⟩, ?_⟩
  · refine ⟨fun b o e => ?_, (R1.vars.wipe vs hb).mono (.refl _) (.refl _) fun b hb o e => ?_, R1.sto.mono (.refl _) (.refl _) fun b hb o e => ?_, R1.nd, R1.nF⟩
    · have e := R1.sub _ _ e
      rw [upd_ne (ne_of_none e hD)]
      exact e
    · rw [upd_ne (ne_of_none e hD)]
      exact e
    · rw [upd_ne (ne_of_none e hD)]
      exact e
  · cases e : y1.F D with
    | none => rfl
    | some o => rw [R1.sub _ _ e] at hD; cases hD
  · refine ⟨⟨.refl _, .refl _, fun b o e _ => ?_, fun b e => ?_, fun b h1 h2 => absurd h1 h2, fun b h => .inl h⟩, rfl⟩
    · rw [upd_ne (ne_of_none e hD)]
      exact e
    · by_cases hbD : b = D
      · subst hbD; exact hD
      · rw [upd_ne hbD] at e
        exact e
  · rintro i n H ⟨rfl, hi, y, m, acc, us, R, mk, hacc, st, q⟩
    by_cases hlt : i < ds.length
    · refine .inr ⟨sv.go y.F H i st.st.F R.sub hlt, fun H' => ∃ y m acc us, Rel y (wipeE r vs) m (wipe s vs) H' ∧ Mk D y H' acc us ∧ acc.length ≤ i + 1 ∧ StE y1 H1 y H' ∧ Fin PV w y1 r s H1 Q (bindR (lcL g t f (wipeE r vs) (ds.drop (i + 1)) m) fun l m => .ok (.lst (acc ++ l)) m), fun H' h' => ⟨ds.length - (i + 1), by omega, rfl, hlt, h'⟩, fun v H' hy => ?_⟩
      obtain ⟨z, Rz, pz, stz⟩ := R.yl (sv.yld y.F y.io H i ds[i] v H' st.st.F st.st.io R.sub (List.getElem?_eq_getElem hlt) hy)
      have mkz := mk.stay stz
      have hd : ds.drop i = ds[i] :: ds.drop (i + 1) := List.drop_eq_getElem_cons hlt
      rw [hd] at q
      have q : Fin PV w y1 r s H1 Q (bindR (match g ds[i] (wipeE r vs) with
        | none => .bad
        | some r' => bindN (t r' m) fun b m => if b = true then bindN (f r' m) fun y m => bindN (lcL g t f (wipeE r vs) (ds.drop (i + 1)) m) fun ys m => .ok (y :: ys) m else lcL g t f (wipeE r vs) (ds.drop (i + 1)) m) fun l m => .ok (.lst (acc ++ l)) m) := q
      refine ⟨z, wipeE r vs, m, ds[i], Rz, pz, ?_⟩
      cases eg : g ds[i] (wipeE r vs) with
      | none => rw [eg] at q; exact q.elim
      | some r' =>
        rw [eg] at q
        intro s' z' R' e1 e2 e3 e4 o'
        refine ⟨(o'.wipe hw).trans (wipe_wipe vs), z', r', m, R', ?_⟩
        have q : Fin PV w y1 r s H1 Q (bindR (bindN (t r' m) fun b m => if b = true then bindN (f r' m) fun y m => bindN (lcL g t f (wipeE r vs) (ds.drop (i + 1)) m) fun ys m => .ok (y :: ys) m else lcL g t f (wipeE r vs) (ds.drop (i + 1)) m) fun l m => .ok (.lst (acc ++ l)) m) := q
        have st' : Stp y1.A2 y1 H1 z' H' := Stp.trans (Stp.trans st.st stz.st) ⟨by rw [e1]; exact .refl _, by rw [e2]; exact .refl _, fun _ _ h _ => h, fun _ h => h, fun b h1 h2 => by rw [e1] at h2; exact absurd h1 h2, fun b h => .inl (by rw [← e3]; exact h)⟩
        have sub1 : ∀ b ∈ z'.A1, b ∈ z.A1 := e4
        have mk' : Mk D z' H' acc us := ⟨mkz.at', by rw [e1, e2]; exact mkz.rep, fun hm => mkz.nA (by
          rcases List.mem_append.mp hm with hm | hm
          · exact List.mem_append_left _ (e4 _ hm)
          · rw [e3] at hm; exact List.mem_append_right _ hm), by rw [e1]; exact mkz.nF⟩
        have hR1 : Rel y1 (wipeE r vs) m1 (wipe s vs) H1 := ⟨R1.sub, R1.vars.wipe vs hb, R1.sto, R1.nd, R1.nF⟩
        obtain ⟨b, m2, et, q⟩ := Fin.okN (Fin.bindN q)
        rw [et]
        intro b' u H4 R4 p4 st4
        cases p4
        have mk4 := mk'.stay st4
        have st4' := Stp.trans st' st4.st
        have back : ∀ {u2 : Sx pw} {H5 : Hp} {m5 : Sto} {r5 : Env} {s5 : L2.St} {acc5 : List Dl.D} {us5 : List V}, Rel u2 r5 m5 s5 H5 → Stp y1.A2 y1 H1 u2 H5 → Mk D u2 H5 acc5 us5 → Rel (u2.w1 (y1.A1)) (wipeE r vs) m5 (wipe s vs) H5 ∧ StE y1 H1 (u2.w1 (y1.A1)) H5 ∧ Mk D (u2.w1 (y1.A1)) H5 acc5 us5 := fun {u2 H5 m5 r5 s5 acc5 us5} R5 st5 mk5 => by
          obtain ⟨R6, st6⟩ := hR1.back st5 R5
          refine ⟨R6, st6, ⟨mk5.at', mk5.rep, fun hm => ?_, mk5.nF⟩⟩
          rcases List.mem_append.mp hm with hm | hm
          · exact R1.there D (List.mem_append_left _ hm) hD
          · exact mk5.nA (List.mem_append_right _ hm)
        cases b with
        | false =>
          rw [if_neg Bool.false_ne_true] at q ⊢
          obtain ⟨R6, st6, mk6⟩ := back R4 st4' mk4
          exact ⟨_, m2, acc, us, R6, mk6, by omega, st6, q⟩
        | true =>
          rw [if_pos rfl] at q ⊢
          obtain ⟨d, m3, ef, q⟩ := Fin.okN (Fin.bindN q)
          obtain ⟨ys, m4, el, q⟩ := Fin.okN (Fin.bindN q)
          refine ⟨u, r', m2, R4, ?_⟩
          rw [ef]
          intro v5 o H5 R5 p5 st5
          have mk5 := mk4.stay st5
          have st5' := Stp.trans st4' st5.st
          obtain ⟨R6, st6, mk6⟩ := back R5 st5' mk5
          obtain ⟨mk7, R7, st7⟩ := mk6.put R6 p5
          refine ⟨us, mk5.at', ?_, _, m3, acc ++ [d], us ++ [v5], R7, mk7, by simp; omega, st7 hD st6, ?_⟩
          · have := mk5.rep.length
            rw [← lim_eq]
            omega
          · rw [el]
            have q : Fin PV w y1 r s H1 Q (.ok (.lst (acc ++ (d :: ys))) m4) := q
            have e : acc ++ [d] ++ ys = acc ++ (d :: ys) := by simp
            show Fin PV w y1 r s H1 Q (.ok (.lst (acc ++ [d] ++ ys)) m4)
            rw [e]
            exact q
    · have e : i = ds.length := by omega
      subst e
      refine .inl ⟨sv.stop y.F H st.st.F R.sub, ?_⟩
      rw [List.drop_length] at q
      have q : Fin PV w y1 r s H1 Q (.ok (.lst (acc ++ [])) m) := q
      rw [List.append_nil] at q
      have hs : Sub y.F (upd y.F D (.lst us)) := fun b o e => by rw [upd_ne (ne_of_none e mk.nF)]; exact e
      refine q (.ref D) (y.wF (upd y.F D (.lst us))) H ⟨fun b o e => ?_, ?_, R.sto.mono hs (.refl _) fun b hb o e => e, R.nd, fun b hb => ?_⟩ (.lst upd_same (mk.rep.mono hs (.refl _))) ⟨⟨st.st.F.trans hs, st.st.io, st.st.keep, st.st.there, fun b h1 h2 => ?_, st.st.newA⟩, st.a1⟩
      · have e : upd y.F D (.lst us) b = some o := e
        by_cases hbD : b = D
        · subst hbD
          rw [upd_same] at e
          cases e
          exact mk.at'
        · rw [upd_ne hbD] at e
          exact R.sub _ _ e
      · show Vars pw _ _ _ _ _ y.A1
        rw [st.a1]
        exact R1.vars.mono (st.st.F.trans hs) st.st.io fun b hb o e => st.st.keep b o e fun z => (List.nodup_append.mp R1.nd).2.2 b hb b z rfl
      · show upd y.F D (.lst us) b = none
        rw [upd_ne (fun e => mk.nA (by rw [← e]; exact hb))]
        exact R.nF b hb
      · have h2 : upd y.F D (.lst us) b ≠ none := h2
        by_cases hbD : b = D
        · subst hbD; exact .inl hD
        · rw [upd_ne hbD] at h2
          exact st.st.newF b h1 h2
theorem de_lc {X : Cx} {w : Wi} {elt tg iter : Expr} {ifs : List Expr} {scope : Scope} {pos : Pos} {i : SL} {g : Gm} {t : SB} {f : SE} {ws : List Nat} (own : List (Str × Nat)) (hc : X.calm = true) (hN : X.N.Nodup) (hi : DI X w tg iter i) (ok : BlkOk X.N X.env.scope scope own)
    (hg : ∀ (s : Shared) (H : Hp) (C : Addr) (cl : List (Str × Addr)) (fp : List Addr), DG (X.blk s H scope (compEnvC scope cl C X.env) fp) tg ws g) (ht : ∀ (s : Shared) (H : Hp) (C : Addr) (cl : List (Str × Addr)) (fp : List Addr), DTs (X.blk s H scope (compEnvC scope cl C X.env) fp) w.no ifs t)
    (he : ∀ (s : Shared) (H : Hp) (C : Addr) (cl : List (Str × Addr)) (fp : List Addr), DE (X.blk s H scope (compEnvC scope cl C X.env) fp) w.no elt f) (hw : ∀ i ∈ ws, i ∈ own.map (·.2) := by decide) (hs : ∀ x, foldedSetIterable iter X.env x = pure x := by intro _; rfl) :
    DE X w (.ListComp elt [⟨tg, iter, ifs, 0⟩] scope pos) (sLc (own.map (·.2)) i g t f) :=
  PE.imp (pe_lc hc hN hi ok hg ht he hs) fun s H Q q => lc_rd hw s H Q q
/-- y = [..], y a local -/
theorem ds_setLc {X : Cx} {w : Wi} {k : Nat} {y : Str} {py : Pos} {elt tg iter : Expr} {ifs : List Expr} {scope : Scope} {pos spos : Pos} {i : SL} {g : Gm} {t : SB} {f : SE} {ws : List Nat} (own : List (Str × Nat)) (hc : X.calm = true) (hN : X.N.Nodup) (hy : X.N[k]? = some y) (hyl : X.env.scope.names.lookup y = some .local)
    (hsw : swapsWith (.ListComp elt [⟨tg, iter, ifs, 0⟩] scope pos) (some (.Name y py)) spos.line X.env = pure true) (hi : DI X w tg iter i) (ok : BlkOk X.N X.env.scope scope own)
    (hg : ∀ (s : Shared) (H : Hp) (C : Addr) (cl : List (Str × Addr)) (fp : List Addr), DG (X.blk s H scope (compEnvC scope cl C X.env) fp) tg ws g) (ht : ∀ (s : Shared) (H : Hp) (C : Addr) (cl : List (Str × Addr)) (fp : List Addr), DTs (X.blk s H scope (compEnvC scope cl C X.env) fp) w.no ifs t)
    (he : ∀ (s : Shared) (H : Hp) (C : Addr) (cl : List (Str × Addr)) (fp : List Addr), DE (X.blk s H scope (compEnvC scope cl C X.env) fp) w.no elt f) (hw : ∀ i ∈ ws, i ∈ own.map (·.2) := by decide) (hs : ∀ x, foldedSetIterable iter X.env x = pure x := by intro _; rfl) :
    DS X w (.Assign [.Name y py] (.ListComp elt [⟨tg, iter, ifs, 0⟩] scope pos) spos) (sAsg (gN k) (sLc (own.map (·.2)) i g t f)) :=
  PS.imp (ps_setLc hc hN hy hyl hsw hi ok hg ht he hs) fun E s H ⟨x, r, m, R, q⟩ => by
    have h : rd (PV (pw := pwOf X)) w (sLc (own.map (·.2)) i g t f) s H fun v H1 => L2.gName k v s H1 E.nx := by
      refine rd_bindS R q fun d m1 v y H1 R1 p1 st1 q1 => ?_
      obtain ⟨z, R', e1, e2, e3, e4⟩ := R1.putV k p1
      exact FinS.shift (.same e1 e2 e3 fun b hb => .inl (e4 b hb)) q1 _ z H1 R' .refl
    exact lc_rd hw s H _ h
end
end Dl
set_option autoImplicit true
/-! The data layer: defs and their calls. -/
namespace Dl
open PySem PySem.Spec PyProof.Rows L2 TL

/-- what is held in common: the classes' places, their fields' names -/
structure Tf where
  T : Nat → Addr
  fld : Nat → Str
def Tf.wi (t : Tf) (E : XK) : Wi := ⟨t.T, t.fld, fun cls d _ H => E cls d H⟩
abbrev Wi.tf (w : Wi) : Tf := ⟨w.T, w.fld⟩
abbrev Fd := List D → Sto → R D
/-- a def's promise -/
def spF (pw : PWd) (t : Tf) (n : Nat) (φ : Fd) : Sp := fun vs H Q E => vs.length = n ∧ ∃ (x : Sx pw) (m : Sto) (ds : List D), Rel x [] m [] H ∧ Reps x.F x.io ds vs ∧ Fin PV (t.wi E) x [] [] H Q (φ ds m)
def startE (N : List Str) (ds : List D) : Env := ds.map (fun d => some (.val d)) ++ List.replicate (N.length - ds.length) none
/-- how a body's end is a call's -/
def ofFl : Fl → R D
  | .nx _ m => .ok .non m
  | .rt d m => .ok d m
  | .exc c v _ m => .exc c v m
  | _ => .bad
def fD (N : List Str) (b : SS) : Fd := fun ds m => ofFl (b (startE N ds) m)
def callF (n : Nat) (φ : Fd) : Fd := fun ds m => if ds.length = n then φ ds m else .bad
section
variable {x y z : Sx pw} {r r' : Env} {m m' : Sto} {s s' : L2.St} {H H' H1 : Hp}
theorem Stp.a1 {A B : List Addr} (h : Stp x.A2 x H y H') : Stp x.A2 (x.w1 (A)) H (y.w1 (B)) H' := ⟨h.F, h.io, h.keep, h.there, h.newF, h.newA⟩
theorem Vars.no_xd {F : Hp} {io : List Addr} : ∀ {r : Env} {s : L2.St} {A : List Addr}, Vars pw F io H r s A → ∀ b ∈ A, ∀ l, H b ≠ some (.xd l)
  | _, _, _, .nil => fun b hb => by cases hb
  | _, _, _, .skip t => Vars.no_xd t
  | _, _, _, .cons c t => fun b hb l e => by
    rcases List.mem_append.mp hb with q | q
    · cases c with
      | val p => cases q
      | lst e1 p =>
        have q := List.mem_singleton.mp q
        subst q
        rw [e1] at e
        cases e
      | dct e1 p =>
        have q := List.mem_singleton.mp q
        subst q
        rw [e1] at e
        cases e
    · exact Vars.no_xd t b q l e
/-- an expression's end, the slots put back -/
theorem Fin.out {w w' : Wi} (hT : w'.T = w.T) (hf : w'.fld = w.fld) {Q : VK} {a : R D} (R : Rel x r m s H) (hW : ∀ cls d H', w.W cls d s H' → w'.W cls d [] H') (h : Fin PV w x r s H Q a) : Fin PV w' (x.w1 ([])) [] [] H Q a := by
  have conv : ∀ {z : Sx pw} {H' : Hp}, StE (x.w1 ([])) H z H' → Stp x.A2 x H z H' := fun st => ⟨st.st.F, st.st.io, st.st.keep, st.st.there, st.st.newF, st.st.newA⟩
  cases a with
  | ok d m' =>
    intro v z H' Rz p st
    obtain ⟨R', st'⟩ := R.back (conv st) Rz
    exact h v (z.w1 (x.A1)) H' R' p st'
  | exc c v m' =>
    intro cls d z H' Rz p st
    obtain ⟨R', st'⟩ := R.back (conv st) Rz
    refine hW _ _ _ (h cls d (z.w1 (x.A1)) H' R' ⟨by rw [← hT]; exact p.1, ?_⟩ st')
    rcases p.2 with q | ⟨a, u, e1, e2, e3⟩
    · exact .inl q
    · rw [hf] at e2
      exact .inr ⟨a, u, e1, e2, e3⟩
  | bad => exact h.elim
section
variable {X : Cx} {w : Wi} {k n : Nat} {f : Addr} {fd : FuncData} {ps : List Str} {φ : Fd} {nm : Str} {p pos : Pos} {e : Expr} {es : List Expr} {g : SL}
theorem rd_fn (q : rd (PV (pw := pw)) w (sCall (callF n φ) g) s H (Q := fun v H => Q v H)) {t : Tf} (ht : t = w.tf) : rd (pw := pw) (fun x H ds vs => Reps x.F x.io ds vs) w g s H fun vs H1 => spF pw t n φ vs H1 Q (WE w.W s) := by
  obtain ⟨x, r, m, R, q⟩ := q
  subst ht
  refine rd_bind R q fun ds m1 vs y H1 R1 p1 st1 q1 => ?_
  obtain ⟨hl, q1⟩ := Fin.ite q1
  refine ⟨by rw [← p1.length]; exact hl, (y.w1 ([])), m1, ds, R1.leave, p1, ?_⟩
  exact Fin.out (w := w) (w' := w.tf.wi (WE w.W s)) rfl rfl R1 (fun _ _ _ h => h) q1
/-- f(e, ..) -/
theorem de_call {t : Tf} (ht : t = w.tf) (F : FnOk X.prog X.w X.K X.mg X.base (L2.CX X.prog X.w) k f fd ps (spF (pwOf X) t n φ)) (hr : Room k X.A) (hg : Gl X nm) (hm : X.mg nm = some (.ref f)) (hk : PySem.W.keepIn X.K (.ref f) = true) (hb : Binds X.K fd ps []) (tk : L2.Takes X w.W)
    (ha : DA X w (e :: es) g) (hdb : (nm == ("__debug__" : Str)) = false := by decide) (he : starEach (e :: es) X.env = (false, eval e X.env) :: starEach es X.env := by rfl) (hpl : (backTo pos (starEach es X.env)).any (·.1) = false := by rfl) :
    DE X w (.Call (.Name nm p) (e :: es) [] pos) (sCall (callF n φ) g) :=
  PE.imp (pe_callS F hr hg hm hk hb (fun σ => passAt tk σ) ha hdb he hpl) fun s H Q q => rd_fn q ht
end
theorem start_vars {F : Hp} {io : List Addr} : ∀ {ds : List D} {vs : List V}, Reps F io ds vs → ∀ k : Nat, Vars pw F io H (ds.map (fun d => some (.val d)) ++ List.replicate k none) (vs.map some ++ List.replicate k none) []
  | _, _, .nil, k => by
    induction k with
    | zero => exact .nil
    | succ k ih => exact .skip ih
  | _, _, .cons p t, k => .cons (A0 := []) (.val p) (start_vars t k)
theorem Rel.start {N : List Str} {ds : List D} {vs : List V} (R : Rel x [] m [] H) (p : Reps x.F x.io ds vs) : Rel x (startE N ds) m (L2.start N vs) H := by
  have e : x.A1 = [] := by
    have := R.vars
    cases h : x.A1 with
    | nil => rfl
    | cons a l => rw [h] at this; cases this
  refine ⟨R.sub, ?_, R.sto, R.nd, R.nF⟩
  rw [e]
  unfold startE L2.start
  rw [p.length]
  exact start_vars p _
/-- a body's end by a call's -/
theorem FinS.of_call {w : Wi} {E : XK} {t : Tf} {N : List Str} {b : SS} {ds : List D} {Q : VK} (ht : w = t.wi E) (R : Rel x [] m [] H) (h : Fin PV (t.wi E) x [] [] H Q (fD N b ds m)) : FinS w x H { nx := fun _ H' => Q .non H', rt := Q } (b (startE N ds) m) := by
  subst ht
  have e : x.A1 = [] := by
    have := R.vars
    cases h : x.A1 with
    | nil => rfl
    | cons a l => rw [h] at this; cases this
  have conv : ∀ {z : Sx pw} {H' : Hp}, StS x H z H' → z.A1 = [] → StE x H z H' := fun st ez => ⟨by have q := st.st; rw [e, List.nil_append] at q; exact q, by rw [ez, e]⟩
  have convA : ∀ {z : Sx pw} {H' : Hp}, StS x H z H' → StE x H (z.w1 ([])) H' := fun st => ⟨by
    have q := st.st
    rw [e, List.nil_append] at q
    exact ⟨q.F, q.io, q.keep, q.there, q.newF, q.newA⟩, by show [] = x.A1; rw [e]⟩
  unfold fD at h
  cases k : b (startE N ds) m with
  | nx r' m' =>
    rw [k] at h
    intro s' z H' Rz st
    exact h .non (z.w1 ([])) H' Rz.leave .non (convA st)
  | rt d m' =>
    rw [k] at h
    intro v z H' Rz p st
    have ez : z.A1 = [] := by
      have := Rz.vars
      cases h : z.A1 with
      | nil => rfl
      | cons a l => rw [h] at this; cases this
    exact h v z H' Rz p (conv st ez)
  | bk r' m' => rw [k] at h; exact h.elim
  | ct r' m' => rw [k] at h; exact h.elim
  | exc c v r' m' =>
    rw [k] at h
    intro cls d s' z H' Rz p st
    refine h cls d (z.w1 ([])) H' Rz.leave ⟨p.1, ?_⟩ (convA st)
    exact p.2
  | bad => rw [k] at h; exact h.elim
end
section
variable {P : Program} {w : World} {K : PySem.W.Frag} {mg : Str → Option Value} {base : Heap} {x qual : Str} {st : Stmt} {f : Addr} {fd : FuncData} {N ps : List Str} {k : Nat} {t : Tf} {b : SS} {φ ψ : Fd}
/-- a def by its body -/
theorem fn_def (F : Fun K x qual st f fd) (S : FnScope N ps (defScope st))
    (hbody : ∀ (cdv : Value) (A : Around) (outer : List PySem.Env) (s : Shared) (H : Hp) (E : XK), Room k (A.deeper (envOfC qual (defScope st) s.heap.objs.size f cdv)) → DSs (cxOf (L2.CX P w) P w K mg base N qual (defScope st) f cdv A outer s H E) (t.wi E) (defBody st) b) :
    FnOk P w K mg base (L2.CX P w) (k + 1) f fd ps (spF (P, w, mg) t ps.length (fD N b)) := by
  refine F.okX S (fun vs H Q E h => h.1) fun cdv A outer s H vs Q E hr h => ⟨_, hbody cdv A outer s H E hr, ?_⟩
  obtain ⟨hl, x, m, ds, R, p, q⟩ := h
  exact ⟨x, _, m, R.start p, FinS.of_call rfl R q⟩
/-- another telling of the same -/
theorem fn_as {n : Nat} (F : FnOk P w K mg base (L2.CX P w) k f fd ps (spF pw t n φ)) (h : ∀ ds m, ds.length = n → ψ ds m = .bad ∨ ψ ds m = φ ds m) : FnOk P w K mg base (L2.CX P w) k f fd ps (spF pw t n ψ) :=
  F.imp fun vs H Q E ⟨hl, x, m, ds, R, p, q⟩ => ⟨hl, x, m, ds, R, p, by
    rcases h ds m (by rw [p.length]; exact hl) with e | e
    · rw [e] at q; exact q.elim
    · rw [e] at q; exact q⟩
end
end Dl
set_option autoImplicit true
/-! The data layer: a sign taken out of a written text, where the sign has just been read. -/
namespace Dl
open PySem PySem.Spec PyProof.Rows L2 TL
section
variable {X : Cx} {pins : List (Addr × Obj)} {σ : L2.St} {H : Hp} {s : Shared} {h' : Heap}
/-- a local name stored, its very value known -/
theorem stored {m : Str → Option Value} {i : Nat} {x : Str} {v : V} {u : Value} {k : Nat} (I : Inv X pins σ H s) (hN : X.N.Nodup) (hi : X.N[i]? = some x) (hk : X.env.scope.names.lookup x = some .local) (r : RelV v u)
    (hl : ∀ (i : Nat) (x : Str) (v : V), X.N[i]? = some x → σ[i]? = some (some v) → Vis X.env.scope x → ∃ u, RelV v u ∧ Look X.env s.heap m x u)
    (hn : s.heap.Ns X.env.locals m) (hn' : h'.Ns X.env.locals fun y => if y = x then some u else m y) (sb : Heap.SameBut X.env.locals s.heap h') : Inv X pins (σ.set i (some v)) H { s with heap := h', toks := k } := by
  have old : ∀ b o, X.s_0.heap.get? b = some o → b ≠ X.env.locals := fun b o e => Nat.ne_of_lt (Nat.lt_of_lt_of_le (Heap.lt_size e) I.ok.above)
  have lenσ : i < σ.length := by rw [I.len]; exact (List.getElem?_eq_some_iff.mp hi).1
  have out : ∀ a o, H a = some o → ∀ c, c = a ∨ H c = some (.own a) → c ≠ X.env.locals := fun a o e c hc z => by
    rcases hc with q | q
    · rw [← q, z, I.free] at e; cases e
    · rw [z, I.free] at q; cases q
  constructor
  · exact I.ok
  · exact I.os
  · exact I.bare
  · constructor
    · exact fun b o e n h1 h2 => (sb.2 b (old b o e)).trans (I.base.keep b o e n h1 h2)
    · exact fun b o e n h1 h2 => by
        obtain ⟨sl, q⟩ := I.base.slot b o e n h1 h2
        exact ⟨sl, (sb.2 b (old b o e)).trans q⟩
    · exact I.base.free
    · exact fun b o e h2 => by
        obtain ⟨o', q⟩ := I.base.there b o e h2
        exact ⟨o', (sb.2 b (old b o e)).trans q⟩
    · exact I.base.tups
    · exact I.base.frzs
    · exact I.base.tbls
  · refine ⟨_, hn', fun j y w e1 e2 e3 => ?_⟩
    by_cases hj : i = j
    · subst hj
      rw [List.getElem?_set_self lenσ] at e2
      rw [hi] at e1
      cases e1
      cases e2
      exact ⟨u, r, .inl ⟨hk, if_pos rfl⟩⟩
    · rw [List.getElem?_set_ne hj] at e2
      obtain ⟨u', r', q⟩ := hl j y w e1 e2 e3
      refine ⟨u', r', q.elim (fun q => .inl ⟨q.1, ?_⟩) fun q => .inr ⟨q.1, ?_⟩⟩
      · show (if y = x then some u else m y) = some u'
        rw [if_neg fun (z : y = x) => hj (nodup_ix hN hi (by rw [← z]; exact e1))]
        exact q.2
      · obtain ⟨c, e4, e5⟩ := q.2
        exact ⟨c, e4, e5.sameBut sb (I.cne y c e4)⟩
  · intro y c e
    obtain ⟨w, q⟩ := I.cell y c e
    exact ⟨w, q.sameBut sb (I.cne y c e)⟩
  · exact I.free
  · exact I.freeC
  · intro p hp
    obtain ⟨e, q1, q2, q3⟩ := I.pin p hp
    exact ⟨(sb.2 p.1 q2).trans e, q1, q2, q3⟩
  · exact fun a o e => (I.hok a o e).stay (fun c w hc q => (sb.2 c (out a o e c hc)).trans q) (fun _ q => q) fun _ _ q => q
  · rw [List.length_set]
    exact I.len
end
/-- two statements: a sign is read and stored beside another value; then a sign of what's left without it -/
def sStrike (L : List Nat) (i j l : Nat) (fa fb fd : SE) (g : SS) : SS := fun r m => bindS r (fa r m) fun x m => match x with
  | .int k => if 0 ≤ k then match L[k.toNat]? with
    | some c => bindS r (fb r m) fun y m => bindS ((r.set i (some (.val (.str [c])))).set j (some (.val y))) (fd ((r.set i (some (.val (.str [c])))).set j (some (.val y))) m) fun z m => match z with
      | .int k2 => if 0 ≤ k2 then match (L.filter (· != c))[k2.toNat]? with
        | some c2 => g (((r.set i (some (.val (.str [c])))).set j (some (.val y))).set l (some (.val (.str [c2])))) m
        | none => .bad else .bad
      | _ => .bad
    | none => .bad else .bad
  | _ => .bad
theorem repl_filter (c : Nat) : ∀ L : List Nat, StrLaws.replL [c] [] L = L.filter (· != c)
  | [] => StrLaws.replL_nil
  | a :: L => by
    by_cases e : a = c
    · subst e
      rw [StrLaws.replL_hit (by simp) (by simp)]
      simpa using repl_filter a L
    · rw [StrLaws.replL_miss (by simpa using e), List.filter_cons_of_pos (by simpa using e), repl_filter c L]
theorem strike_is (L : List Nat) (c : Nat) : Txt.replace ⟨L.toArray⟩ ⟨#[c]⟩ ⟨#[]⟩ = ⟨(L.filter (· != c)).toArray⟩ := by
  refine ext_tl ?_
  have h := StrLaws.replace_list (x := ⟨L.toArray⟩) (y := ⟨#[c]⟩) (z := ⟨#[]⟩) (by simp [Str.length])
  show (Txt.replace ⟨L.toArray⟩ ⟨#[c]⟩ ⟨#[]⟩).cps.toList = _
  rw [h]
  simpa using repl_filter c L
section
variable {X : Cx} {w : Wi} {a b d : Expr} {fa fb fd : SE} {g : SS} {rest : List Stmt} {L : List Nat} {S1 S2 em : Str} {i j l : Nat} {n k y : Str} {j1 j2 j3 kt k2 : Nat} {c1 c2 c3 px py pt pt2 pa pos1 pz q apos cpos pd pos2 : Pos}
/-- the item at a place of a written text: its token is new -/
theorem raw_item {pins : List (Addr × Obj)} {s : Shared} {σ : L2.St} {H : Hp} {K : V → Hp → Prop} {Q : Value → Shared → Prop} (eS : S1 = ⟨L.toArray⟩) (hi : PlainIxT a) {ta : TE} (ha : PE X a ta) (I : Inv X pins σ H s) (h : ta σ H K) (hL : L.length < 1000)
    (fin : ∀ (s1 : Shared) (x : V) (H1 : Hp), Inv X pins σ H1 s1 → s.toks + 1 ≤ s1.toks → K x H1 → ∃ (z : Int) (c : Nat), x = .int z ∧ 0 ≤ z ∧ L[z.toNat]? = some c ∧ Q (.str ⟨#[c]⟩ s1.toks) { s1 with toks := s1.toks + 1 }) :
    wpAny (model X.prog X.w) X.A (eval (.Subscript (.Constant (.str S1) j1 c1) a pa) X.env) Q X.xe s := by
  refine Subscript_ (Calls.Constant_str ?_)
  refine wpAny_mono (PySem.wpAny_toks (ha.run pins { s with toks := s.toks + 1 } σ H K (I.tok _) h)) (fun u s1 q => ?_) fun _ _ z => z.2
  obtain ⟨hk, x, H1, I1, r1, q⟩ := q
  obtain ⟨z, c, rfl, h0, hc, q⟩ := fin s1 x H1 I1 hk q
  obtain ⟨t', rfl⟩ := r1
  have hlt : z.toNat < L.length := (List.getElem?_eq_some_iff.mp hc).1
  subst eS
  have h1 : z < ((⟨L.toArray⟩ : Str).length : Int) := by
    show z < ((L.toArray.size : Nat) : Int)
    rw [List.size_toArray]
    omega
  have e : seqIndex? z (⟨L.toArray⟩ : Str).length = some z.toNat := PySem.StrLaws.seqIndex_nonneg h0 h1
  exact tail_any (typeIs_str s1 _ _) slot_str_getitem.lookup (getItem_str (c := c) (by
    have e1 : decide (z < -(2 ^ 63 : Int)) = false := decide_eq_false (by omega)
    have e2 : decide (z ≥ 2 ^ 63) = false := decide_eq_false (by omega)
    rw [e1, e2] <;> rfl) (by rw [e]; show L.toArray[z.toNat]? = _; simpa using hc) q) (hi _ _)
theorem dss_strike (eS1 : S1 = ⟨L.toArray⟩) (eS2 : S2 = ⟨L.toArray⟩) (eE : em = ⟨#[]⟩) (hL : L.length < 1000) (hc : X.calm = true) (hN : X.N.Nodup) (hi : X.N[i]? = some n) (hj : X.N[j]? = some k) (hl : X.N[l]? = some y) (hij : i ≠ j)
    (hx : X.env.scope.names.lookup n = some .local) (hy : X.env.scope.names.lookup k = some .local) (hz : X.env.scope.names.lookup y = some .local) (ia : PlainIxT a) (id' : PlainIxT d) (ha : DK X w a fa) (hb : DE X w b fb) (hd : DK X w d fd) (hr : DSs X w rest g)
    (hw : swappedStores [.Tuple [.Name n px, .Name k py] kt pt] (.Tuple [.Subscript (.Constant (.str S1) j1 c1) a pa, b] k2 pt2) X.env = pure (some [n, k]))
    (hs : swapsWithSole [.Tuple [.Name n px, .Name k py] kt pt] (.Tuple [.Subscript (.Constant (.str S1) j1 c1) a pa, b] k2 pt2) pos1.line X.env = pure false := by rfl)
    (h1 : starEach [.Subscript (.Constant (.str S1) j1 c1) a pa, b] X.env = (false, eval (.Subscript (.Constant (.str S1) j1 c1) a pa) X.env) :: starEach [b] X.env := by rfl) (h2 : starEach [b] X.env = [(false, eval b X.env)] := by rfl)
    (hst : starEach [.Name n q, .Constant (.str em) j3 c3] X.env = [(false, eval (.Name n q) X.env), (false, eval (.Constant (.str em) j3 c3) X.env)] := by rfl)
    (hbase : attributeBase (.Constant (.str S2) j2 c2) "replace" X.env (eval (.Constant (.str S2) j2 c2) X.env) = eval (.Constant (.str S2) j2 c2) X.env := by rfl) (hline : (apos.endLine == cpos.line) = true := by rfl)
    (hsw : swapsWith (.Subscript (.Call (.Attribute (.Constant (.str S2) j2 c2) "replace" apos) [.Name n q, .Constant (.str em) j3 c3] [] cpos) d pd) (some (.Name y pz)) pos2.line X.env = pure false := by rfl)
    (hdd : (n == ("__debug__" : Str)) = false := by decide) :
    DSs X w (.Assign [.Tuple [.Name n px, .Name k py] kt pt] (.Tuple [.Subscript (.Constant (.str S1) j1 c1) a pa, b] k2 pt2) pos1 ::
      .Assign [.Name y pz] (.Subscript (.Call (.Attribute (.Constant (.str S2) j2 c2) "replace" apos) [.Name n q, .Constant (.str em) j3 c3] [] cpos) d pd) pos2 :: rest) (sStrike L i j l fa fb fd g) := by
  refine ⟨fun pins s σ H E I ⟨x0, r, m, R, qq⟩ => ?_⟩
  refine wpAny_execs_cons ?_
  rw [exec_Assign_arm]
  refine wpAny_bind (wpAny_standAt ?_)
  rw [hs]
  refine wpAny_bind (wpAny_pure ?_)
  rw [if_neg (by decide)]
  refine wpAny_bind (Tuple_ ?_)
  rw [h1, h2]
  refine Calls.spliced_cons ?_
  -- what is to be done behind a, b, d
  obtain ⟨k3, hk3⟩ : ∃ k3 : Env → Nat → D → Sto → Fl, k3 = fun r' c z m => match z with
      | .int k2 => if 0 ≤ k2 then match (L.filter (· != c))[k2.toNat]? with
        | some c2 => g (r'.set l (some (.val (.str [c2])))) m
        | none => .bad else .bad
      | _ => .bad := ⟨_, rfl⟩
  obtain ⟨k1, hk1⟩ : ∃ k1 : D → Sto → Fl, k1 = fun x m => match x with
    | .int z => if 0 ≤ z then match L[z.toNat]? with
      | some c => bindS r (fb r m) fun y m => bindS ((r.set i (some (.val (.str [c])))).set j (some (.val y))) (fd ((r.set i (some (.val (.str [c])))).set j (some (.val y))) m) fun z m => k3 ((r.set i (some (.val (.str [c])))).set j (some (.val y))) c z m
      | none => .bad else .bad
    | _ => .bad := ⟨_, rfl⟩
  have qq : FinS w x0 H E (bindS r (fa r m) k1) := by
    rw [hk1, hk3]
    exact qq
  refine raw_item eS1 ia ha I (K := fun v H1 => ∃ dx m1 y1, Rel y1 r m1 σ H1 ∧ Pk y1 H1 dx v ∧ FinS w y1 H1 E (k1 dx m1)) (rd_bindS R qq fun dx m1 v y1 H1 R1 p1 st1 q1 => ⟨dx, m1, y1, R1, p1, q1⟩) hL fun s1 v H1 I1 tk1 ⟨dx, m1, y1, R1, p1, q1⟩ => ?_
  cases dx with
  | int z =>
    have ev := p1.int
    subst ev
    rw [hk1] at q1
    have q1 : FinS w y1 H1 E (if 0 ≤ z then match L[z.toNat]? with
      | some c => bindS r (fb r m1) fun y m => bindS ((r.set i (some (.val (.str [c])))).set j (some (.val y))) (fd ((r.set i (some (.val (.str [c])))).set j (some (.val y))) m) fun z m => k3 ((r.set i (some (.val (.str [c])))).set j (some (.val y))) c z m
      | none => .bad else .bad) := q1
    obtain ⟨h0, q1⟩ := FinS.ite q1
    cases ec : L[z.toNat]? with
    | none => rw [ec] at q1; exact q1.elim
    | some c =>
      rw [ec] at q1
      refine ⟨z, c, rfl, h0, ec, ?_⟩
      -- the second
      have I1' : Inv X pins σ H1 { s1 with toks := s1.toks + 1 } := I1.tok _
      have hb' := rd_bindS R1 q1 fun dy m2 v2 y2 H2 R2 p2 st2 q2 => (⟨dy, m2, y2, R2, p2, q2⟩ : ∃ dy m2 y2, Rel y2 r m2 σ H2 ∧ Rep y2.F y2.io dy v2 ∧ FinS w y2 H2 E (bindS ((r.set i (some (.val (.str [c])))).set j (some (.val dy))) (fd ((r.set i (some (.val (.str [c])))).set j (some (.val dy))) m2) fun z m => k3 ((r.set i (some (.val (.str [c])))).set j (some (.val dy))) c z m))
      refine Calls.spliced_cons (wpAny_mono (PySem.wpAny_toks (hb.run pins { s1 with toks := s1.toks + 1 } σ H1 _ I1' hb')) (fun u2 s2 q => ?_) fun _ _ z => z.2)
      obtain ⟨tk2, v2, H2, I2, rv2, dy, m2, y2, R2, p2, q2⟩ := q
      have tk2 : s1.toks + 1 ≤ s2.toks := tk2
      refine Calls.spliced_nil ?_
      refine wpAny_newObj_type ?_ (by show 2 ≤ sizeLine; decide)
      have I3 : Inv X pins σ H2 { s2 with heap := s2.heap.push { cls := .type "tuple", data := .seq [.str ⟨#[c]⟩ s1.toks, u2].toArray } } := I2.kept (t' := s2.toks) fun b o e => Heap.get?_push_of_some _ e
      rw [hw]
      refine wpAny_bind (wpAny_pure ?_)
      show wpAny (model X.prog X.w) X.A (do rule "assign.swapped-stores"; let items ← unpackItems (.ref s2.heap.objs.size) 2 none; assignInOrder [fun v => bindName X.env k v, fun v => bindName X.env n v] items.reverse; pure Flow.next) _ _ _
      refine wpAny_bind (wpAny_rule (wpAny_bind (unpackItems_tuple (items := #[.str ⟨#[c]⟩ s1.toks, u2]) (I.ok.hd hc) (IsTup.new s2.heap _) fun h' hx' => ?_)))
      have I4 := I3.kept (h' := h') (t' := s2.toks) fun b o e => hx' b o (Nat.ne_of_lt (Heap.lt_size e)) e
      show wpAny _ _ (assignInOrder [fun v => bindName X.env k v, fun v => bindName X.env n v] [u2, .str ⟨#[c]⟩ s1.toks] >>= fun _ => pure Flow.next) _ _ _
      refine wpAny_bind (assignInOrder_cons (wpAny_bindName ?_))
      refine wpAny_mono (PySem.wpAny_toks (store_ok (Q := fun _ s5 => Inv X pins (σ.set j (some v2)) H2 s5) I4 hN hj (.inl hy) rv2 (fun s5 I5 => I5) (.inr hy))) (fun _ s5 q => ?_) fun _ _ z => z.2
      obtain ⟨tk5, I5⟩ := q
      have tk5 : s2.toks ≤ s5.toks := tk5
      obtain ⟨mm, hmm, hlm⟩ := id I5.loc
      have hcls : (X.env.scope.kind == .class || (X.env.scope.kind == .module && X.env.locals != X.env.globals)) = false := by rw [I5.ok.kind]; rfl
      refine assignInOrder_cons (wpAny_bindName (wpAny_storeName_local hx hmm (fun h6 hn6 sb6 => ?_) hcls))
      have I6 : Inv X pins ((σ.set j (some v2)).set i (some (.str ⟨#[c]⟩))) H2 { s5 with heap := h6, toks := s5.toks + 1 } := stored I5 hN hi hx ⟨s1.toks, rfl⟩ hlm hmm hn6 sb6
      rw [List.set_comm _ _ (Ne.symm hij)] at I6
      refine assignInOrder_nil (wpAny_pure ?_)
      show wpAny _ _ (execs (_ :: rest) X.env) _ _ _
      -- the third
      obtain ⟨y3, R3, e1, e2, e3, e4⟩ := R2.putV (d := .str [c]) (v := .str ⟨#[c]⟩) i (.str [c])
      obtain ⟨y4, R4, f1, f2, f3, f4⟩ := R3.putV (d := dy) (v := v2) j (by rw [e1, e2]; exact p2)
      have st4 : StS y2 H2 y4 H2 := (StS.same e1 e2 e3 fun b hb => .inl (e4 b hb)).trans (.same f1 f2 f3 fun b hb => .inl (f4 b hb))
      have q4 := FinS.shift st4 q2
      refine wpAny_execs_cons (wpAny_Assign_Name (Subscript_ ?_) hsw)
      refine PySem.Call_method2 hbase hst hline (Calls.Constant_str ?_)
      refine ⟨"str", _, PySem.F.plainAttrs_str, PySem.F.slot_str_replace, PySem.F.type_str_replace, typeIs_str _ _ _, (fun _ e => nomatch e), Calls.callWith_builtin rfl (Calls.evalArgs_plain (Calls.spliced_cons ?_))⟩
      refine wpAny_Name (wpAny_loadName_local I6.ok.kind hx hn6 (if_pos rfl) ?_) hdd
      refine Calls.spliced_cons (Calls.Constant_str (Calls.spliced_nil ?_))
      subst eS2 eE
      refine PySem.SC.replace (by show s1.toks ≠ 0; omega) (by show s5.toks + 1 + 1 ≠ 0; omega) (by show s1.toks ≠ s5.toks + 1 + 1; omega) (by simp) (by simp [Str.length]; omega) fun t' tk' => ?_
      rw [strike_is]
      have I7 : Inv X pins ((σ.set i (some (.str ⟨#[c]⟩))).set j (some v2)) H2 { s5 with heap := h6, toks := tk' } := I6.tok tk'
      have hd' := rd_bindS R4 q4 fun dz m3 v3 y5 H3 R5 p5 st5 q5 => (⟨dz, m3, y5, R5, p5, q5⟩ : ∃ dz m3 y5, Rel y5 ((r.set i (some (.val (.str [c])))).set j (some (.val dy))) m3 ((σ.set i (some (.str ⟨#[c]⟩))).set j (some v2)) H3 ∧ Pk y5 H3 dz v3 ∧ FinS w y5 H3 E (k3 ((r.set i (some (.val (.str [c])))).set j (some (.val dy))) c dz m3))
      refine thn (hd.run pins _ _ H2 _ I7 hd') fun u3 s8 ⟨v3, H3, I8, rv3, dz, m3, y5, R5, p5, q5⟩ => ?_
      cases dz with
      | int z2 =>
        have ev := p5.int
        subst ev
        obtain ⟨t3, rfl⟩ := rv3
        rw [hk3] at q5
        have q5 : FinS w y5 H3 E (if 0 ≤ z2 then match (L.filter (· != c))[z2.toNat]? with
          | some c2 => g (((r.set i (some (.val (.str [c])))).set j (some (.val dy))).set l (some (.val (.str [c2])))) m3
          | none => .bad else .bad) := q5
        obtain ⟨h02, q5⟩ := FinS.ite q5
        cases ec2 : (L.filter (· != c))[z2.toNat]? with
        | none => rw [ec2] at q5; exact q5.elim
        | some c4 =>
          rw [ec2] at q5
          have hlt : z2.toNat < (L.filter (· != c)).length := (List.getElem?_eq_some_iff.mp ec2).1
          have hle : (L.filter (· != c)).length ≤ L.length := List.length_filter_le ..
          have h5 : z2 < ((⟨(L.filter (· != c)).toArray⟩ : Str).length : Int) := by
            show z2 < (((L.filter (· != c)).toArray.size : Nat) : Int)
            rw [List.size_toArray]
            omega
          have e : seqIndex? z2 (⟨(L.filter (· != c)).toArray⟩ : Str).length = some z2.toNat := PySem.StrLaws.seqIndex_nonneg h02 h5
          refine tail_any (typeIs_str s8 _ _) slot_str_getitem.lookup (getItem_str (c := c4) (by
            have e1 : decide (z2 < -(2 ^ 63 : Int)) = false := decide_eq_false (by omega)
            have e2 : decide (z2 ≥ 2 ^ 63) = false := decide_eq_false (by omega)
            rw [e1, e2] <;> rfl) (by rw [e]; show (L.filter (· != c)).toArray[z2.toNat]? = _; simpa using ec2) ?_) (id' _ _)
          refine store_ok (v := V.str ⟨#[c4]⟩) (I8.tok (s8.toks + 1)) hN hl (.inl hz) ⟨s8.toks, rfl⟩ (fun s9 I9 => ?_) (.inr hz)
          obtain ⟨y6, R6, g1, g2, g3, g4⟩ := R5.putV (d := .str [c4]) (v := .str ⟨#[c4]⟩) l (.str [c4])
          exact hr.run pins s9 _ H3 E I9 ⟨y6, _, m3, R6, FinS.shift (.same g1 g2 g3 fun b hb => .inl (g4 b hb)) q5⟩
      | _ => rw [hk3] at q5; exact q5.elim
  | _ => rw [hk1] at q1; exact q1.elim
end
end Dl
set_option autoImplicit true
/-! The data layer: methods of texts, str(..), isinstance. -/
namespace Dl
open PySem PySem.Spec PyProof.Rows L2 TL

/-- the type by which a method is found -/
def kD : D → String
  | .str _ => "str"
  | .int _ => "int"
  | .lst _ => "list"
  | _ => ""
theorem tyV_of {K : PySem.W.Frag} {T : String} {x : Sx pw} {e : Env} {m : Sto} {s : L2.St} {H : Hp} {d : D} {v : V} (R : Rel x e m s H) (p : Pk x H d v) (h : kD d = T) (hT : T ≠ "" := by decide) : tyV K T v H := by
  subst h
  cases d with
  | str z =>
    have e := p.str
    subst e
    exact rfl
  | int z =>
    have e := p.int
    subst e
    exact rfl
  | lst l =>
    obtain ⟨a, vs, rfl, ha, q⟩ := p.lst R
    exact .inl ⟨rfl, vs, SqL.of ha⟩
  | _ => exact absurd rfl hT
/-- o.name(e, ..) of a built-in type -/
def sMeth (T : String) (f : D → List D → Sto → R D) (fo : SE) (g : SL) : SE := fun r m => bindR (fo r m) fun d m => if kD d = T then bindR (g r m) fun ds m => f d ds m else .bad
def CmM (pw : PWd) (w : Wi) (f : D → List D → Sto → R D) (r : V → List V → Hp → VK → Prop) : Prop := ∀ (x : Sx pw) (e : Env) (m : Sto) (s : L2.St) (H : Hp) (Q : VK) (d : D) (v : V) (ds : List D) (vs : List V), Rel x e m s H → Pk x H d v → Pks x H ds vs → Fin PV w x e s H Q (f d ds m) → r v vs H Q
section
variable {X : Cx} {w : Wi} {a o e : Expr} {es : List Expr} {pos p apos cpos : Pos} {fa fo : SE} {g : SL} {T id : String} {r : V → List V → Hp → VK → Prop} {f : D → List D → Sto → R D} {name : Str}
theorem rd_meth (hT : T ≠ "") (h : CmM pw w f r) (s : L2.St) (H : Hp) (Q : VK) (q : rd (PV (pw := pw)) w (sMeth T f fo g) s H Q) : tBM X.K T r (rd (Pk (pw := pw)) w fo) (rd (pw := pw) (fun x H ds vs => Pks x H ds vs) w g) s H Q := by
  obtain ⟨x, e, m, R, q⟩ := q
  refine rd_bind R q fun d m1 v y H1 R1 p1 st1 q1 => ?_
  obtain ⟨hk, q1⟩ := Fin.ite q1
  refine ⟨tyV_of R1 p1 hk hT, rd_bind R1 q1 fun ds m2 vs z H2 R2 p2 st2 q2 => ?_⟩
  exact h z e m2 s H2 Q d v ds vs R2 (p1.stay R1 st2) p2 q2
theorem de_bm (pa : PlainAttrs T) (slot : Slot T name id) (hty : typeOf (.builtin id) = pure (.type "method_descriptor")) (hm : MtR X id r) (h : CmM (pwOf X) w f r) (ho : DK X w o fo) (ha : DAk X w (e :: es) g) (hT : T ≠ "" := by decide)
    (hbase : attributeBase o name X.env (eval o X.env) = eval o X.env := by rfl)
    (hfew : ((backTo cpos (starEach (e :: es) X.env)).all (fun x => !x.1) && (backToKw cpos (keywordEach [] X.env)).all (fun x => x.1.isSome)
      && decide ((e :: es).length + ([] : List Keyword).length + (if ([] : List Keyword).isEmpty then 0 else 1) < 30)) = true := by rfl)
    (hline : (apos.endLine == cpos.line) = true := by rfl) (hs : starEach (e :: es) X.env = (false, eval e X.env) :: starEach es X.env := by rfl) (hplain : (backTo cpos (starEach es X.env)).any (·.1) = false := by rfl) :
    DE X w (.Call (.Attribute o name apos) (e :: es) [] cpos) (sMeth T f fo g) :=
  PE.imp (pe_bm pa slot hty hm ho ha hbase hfew hline hs hplain) fun s H Q q => rd_meth hT h s H Q q
/-- texts of values -/
def strsD : List D → Option (List (List Nat))
  | [] => some []
  | .str z :: l => (strsD l).map (z :: ·)
  | _ => none
@[simp] theorem strsD_map (l : List (List Nat)) : strsD (l.map D.str) = some l := by
  induction l with
  | nil => rfl
  | cons i l ih =>
    show (strsD (l.map D.str)).map (i :: ·) = _
    rw [ih]
    rfl
def mkS (z : List Nat) : Str := ⟨z.toArray⟩
theorem strs_reps {F : Hp} {io : List Addr} : ∀ {l : List D} {vs : List V} {ns : List (List Nat)}, Reps F io l vs → strsD l = some ns → vs = (ns.map mkS).map V.str
  | [], _, _, .nil, e => by
    cases e
    rfl
  | d :: l, _, ns, .cons r t, e => by
    cases d with
    | str i =>
      cases r
      cases k : strsD l with
      | none =>
        have e : (strsD l).map (i :: ·) = some ns := e
        rw [k] at e
        cases e
      | some ms =>
        have e : (strsD l).map (i :: ·) = some ns := e
        rw [k] at e
        cases e
        rw [strs_reps t k]
        rfl
    | _ => cases e
def joinD (a : List Nat) (ps : List (List Nat)) (m : Sto) : R D := if (ps.map List.length).sum + ps.length * a.length ≤ LIM then .ok (.str (joinL a ps)) m else .bad
def fJoin : D → List D → Sto → R D
  | .str a, [.lst l], m => match strsD l with
    | some ps => joinD a ps m
    | none => .bad
  | .str a, [.tup l], m => match strsD l with
    | some ps => joinD a ps m
    | none => .bad
  | _, _, _ => .bad
theorem join_mk (a : List Nat) (ps : List (List Nat)) : Txt.join (mkS a) (ps.map mkS) = mkS (joinL a ps) := by
  refine ext_tl ?_
  rw [join_eq, tl_join]
  have e : (ps.map mkS).map tl = ps := by
    rw [List.map_map]
    exact List.map_id'' (fun z => rfl) ps
  rw [e]
  rfl
theorem sum_mk (ps : List (List Nat)) : ((ps.map mkS).map (·.length)).sum = (ps.map List.length).sum := by
  rw [List.map_map]
  exact congrArg List.sum (List.map_congr_left fun z _ => str_len z)
theorem cm_join : CmM pw w fJoin (fun x xs H Q => ∃ a p, ∃ ys : List Str, x = .str a ∧ xs = [.ref p] ∧ (SqL X.K H p (ys.map V.str) ∨ SqT X.K H p (ys.map V.str)) ∧
    (ys.map (·.length)).sum + ys.length * a.length ≤ 16777216 ∧ Q (.str (Txt.join a ys)) H) := by
  intro x e m s H Q d v ds vs R pd ps h
  unfold fJoin at h
  split at h
  · rename_i a l
    have ed := pd.str
    subst ed
    obtain ⟨v, rfl, pa⟩ := ps.one
    obtain ⟨p, us, rfl, hp, q⟩ := pa.lst R
    cases k : strsD l with
    | none => rw [k] at h; exact h.elim
    | some zs =>
      rw [k] at h
      obtain ⟨hz, h⟩ := Fin.ite h
      have e := strs_reps q k
      subst e
      refine ⟨mkS a, p, zs.map mkS, rfl, rfl, .inl (SqL.of hp), ?_, ?_⟩
      · rw [sum_mk, List.length_map]
        show _ + _ * (mkS a).length ≤ LIM
        rw [show (mkS a).length = a.length from str_len a]
        exact hz
      · rw [join_mk]
        exact Fin.here R h (.str _)
  · rename_i a l
    have ed := pd.str
    subst ed
    obtain ⟨v, rfl, pa⟩ := ps.one
    obtain ⟨p, us, rfl, _, hp, q⟩ := pa.tup R
    cases k : strsD l with
    | none => rw [k] at h; exact h.elim
    | some zs =>
      rw [k] at h
      obtain ⟨hz, h⟩ := Fin.ite h
      have e := strs_reps q k
      subst e
      refine ⟨mkS a, p, zs.map mkS, rfl, rfl, .inr (SqT.of hp), ?_, ?_⟩
      · rw [sum_mk, List.length_map]
        show _ + _ * (mkS a).length ≤ LIM
        rw [show (mkS a).length = a.length from str_len a]
        exact hz
      · rw [join_mk]
        exact Fin.here R h (.str _)
  · exact h.elim
theorem de_join (ho : DK X w o fo) (ha : DK X w a fa) (hs : starEach [a] X.env = [(false, eval a X.env)] := by rfl) (hbase : attributeBase o "join" X.env (eval o X.env) = eval o X.env := by rfl)
    (hfew : ((backTo cpos (starEach [a] X.env)).all (fun x => !x.1) && (backToKw cpos (keywordEach [] X.env)).all (fun x => x.1.isSome)
      && decide ([a].length + ([] : List Keyword).length + (if ([] : List Keyword).isEmpty then 0 else 1) < 30)) = true := by rfl)
    (hline : (apos.endLine == cpos.line) = true := by rfl) (hpl : (backTo cpos (starEach [] X.env)).any (·.1) = false := by rfl) : DE X w (.Call (.Attribute o "join" apos) [a] [] cpos) (sMeth "str" fJoin fo (aCons fa aNil)) :=
  de_bm PySem.F.plainAttrs_str PySem.F.slot_str_join PySem.F.type_str_join mt_join cm_join ho (dk_cons ha dk_nil hs) (by decide) hbase hfew hline hs hpl
/-- a text cut at a sign -/
def fSplit : D → List D → Sto → R D
  | .str a, [.str [c]], m => if a.length + 2 ≤ LIM ∧ c < 256 then .ok (.lst ((spl [c] 0 [] a).map D.str)) m else .bad
  | _, _, _ => .bad
theorem split_mk (a : List Nat) (c : Nat) (hc : c < 256) : Txt.split (mkS a) (mkS [c]) = (spl [c] 0 [] a).map mkS := by
  refine map_tl_inj ?_
  rw [split_spl (mkS a) (mkS [c]) (by simp [mkS, tl]) (kind_ok (by simp [mkS, hc])), List.map_map]
  show spl [c] 0 [] a = _
  exact (List.map_id'' (fun z => rfl) _).symm
theorem reps_strs {F : Hp} {io : List Addr} : ∀ l : List (List Nat), Reps F io (l.map D.str) ((l.map mkS).map V.str)
  | [] => .nil
  | z :: l => .cons (.str z) (reps_strs l)
theorem cm_split : CmM pw w fSplit (fun x xs H Q => ∃ a b, x = .str a ∧ xs = [.str b] ∧ (b.length == 0) = false ∧ a.length + 2 ≤ sizeLine ∧ rNewStrs (Txt.split a b) H Q) := by
  intro x e m s H Q d v ds vs R pd ps h
  unfold fSplit at h
  split at h
  · rename_i a c
    have ed := pd.str
    subst ed
    obtain ⟨v, rfl, pa⟩ := ps.one
    have ea := pa.str
    subst ea
    obtain ⟨⟨hz, hc⟩, h⟩ := Fin.ite h
    refine ⟨mkS a, mkS [c], rfl, rfl, by simp [mkS, Str.length], ?_, ?_⟩
    · rw [show (mkS a).length = a.length from str_len a, ← lim_eq]
      exact hz
    · unfold rNewStrs
      rw [split_mk a c hc]
      exact Fin.list R h (reps_strs _)
  · exact h.elim
theorem de_split (ho : DK X w o fo) (ha : DK X w a fa) (hs : starEach [a] X.env = [(false, eval a X.env)] := by rfl) (hbase : attributeBase o "split" X.env (eval o X.env) = eval o X.env := by rfl)
    (hfew : ((backTo cpos (starEach [a] X.env)).all (fun x => !x.1) && (backToKw cpos (keywordEach [] X.env)).all (fun x => x.1.isSome)
      && decide ([a].length + ([] : List Keyword).length + (if ([] : List Keyword).isEmpty then 0 else 1) < 30)) = true := by rfl)
    (hline : (apos.endLine == cpos.line) = true := by rfl) (hpl : (backTo cpos (starEach [] X.env)).any (·.1) = false := by rfl) : DE X w (.Call (.Attribute o "split" apos) [a] [] cpos) (sMeth "str" fSplit fo (aCons fa aNil)) :=
  de_bm PySem.F.plainAttrs_str PySem.F.slot_str_split PySem.F.type_str_split mt_split cm_split ho (dk_cons ha dk_nil hs) (by decide) hbase hfew hline hs hpl

/-! ### str(..) -/
def decD (i : Int) : List Nat := (toString i : String).toList.map Char.toNat
def fText : List D → Sto → R D
  | [.int i], m => if i.natAbs.log2 < 1920 then .ok (.str (decD i)) m else .bad
  | [.str z], m => .ok (.str z) m
  | _, _ => .bad
theorem ca_text : CaD pw w fText (fun xs H Q => (∃ i, xs = [.int i] ∧ i.natAbs.log2 < 1920 ∧ Q (.str (toString i)) H) ∨ ∃ a, xs = [.str a] ∧ Q (.str a) H) := by
  intro x e m s H Q ds vs R ps h
  unfold fText at h
  split at h
  · rename_i i
    obtain ⟨v, rfl, pa⟩ := ps.one
    have ea := pa.int
    subst ea
    obtain ⟨hz, h⟩ := Fin.ite h
    refine .inl ⟨i, rfl, hz, ?_⟩
    have e : (Str.ofString (toString i) : Str) = mkS (decD i) := ext_tl (tl_ofString _)
    show Q (.str (Str.ofString (toString i))) H
    rw [e]
    exact Fin.here R h (.str _)
  · rename_i z
    obtain ⟨v, rfl, pa⟩ := ps.one
    have ea := pa.str
    subst ea
    exact .inr ⟨_, rfl, Fin.here R h (.str _)⟩
  · exact h.elim
theorem de_text (hg : Gl X "str") (hm : X.mg "str" = none) (ha : DK X w a fa) (hs : starEach [a] X.env = [(false, eval a X.env)] := by rfl) (hpl : (backTo pos (starEach [] X.env)).any (·.1) = false := by rfl) : DE X w (.Call (.Name "str" p) [a] [] pos) (sCall fText (aCons fa aNil)) :=
  de_callT (CallR.or call_str_int SkE.call_str_str) ca_text hg hm PyProof.Rows.boot_str (dk_cons ha dk_nil hs) (by decide) (by decide) hs hpl

/-! ### isinstance -/
/-- a built-in type's name -/
theorem de_ty {x : Str} {T : String} (hg : Gl X x) (hm : X.mg x = none) (hv : bootBuiltins x = some (.type T)) (hn : x ≠ "__name__" := by decide) (hd : (x == ("__debug__" : Str)) = false := by decide) : DE X w (.Name x pos) (sC (.cst (.ty T))) :=
  de_c (v := .ty T) (pe_bltn (v := .ty T) hg hm hv rfl hn hd) fun _ _ => .cst _
def tyD : D → Option String
  | .non => some "NoneType"
  | .bl _ => some "bool"
  | .int _ => some "int"
  | .str _ => some "str"
  | .tup _ => some "tuple"
  | .lst _ => some "list"
  | _ => none
def tyNs : List D → Option (List String)
  | [] => some []
  | .cst (.ty n) :: l => (tyNs l).map (n :: ·)
  | _ => none
def isiAny (a : String) : List String → Option Bool
  | [] => some false
  | b :: l => match L2.kitB a b with
    | some true => some true
    | some false => isiAny a l
    | none => none
def fIsi : List D → Sto → R D
  | [d, .cst (.ty n)], m => match tyD d with
    | some a => ofO ((L2.kitB a n).map D.bl) m
    | none => .bad
  | [d, .tup l], m => match tyD d, tyNs l with
    | some a, some ns => ofO ((isiAny a ns).map D.bl) m
    | _, _ => .bad
  | _, _ => .bad
theorem tyX_of {K : PySem.W.Frag} {x : Sx pw} {e : Env} {m : Sto} {s : L2.St} {H : Hp} {d : D} {v : V} {a : String} (R : Rel x e m s H) (p : Pk x H d v) (h : tyD d = some a) : TyX K H v (.type a) := by
  cases d with
  | non => cases h; rw [p.non]; exact .base .non
  | bl b => cases h; rw [p.bl]; exact .base (.bl _)
  | int b => cases h; rw [p.int]; exact .base (.int _)
  | str b => cases h; rw [p.str]; exact .base (.str _)
  | tup l => cases h; obtain ⟨a, vs, rfl, _, ha, _⟩ := p.tup R; exact .base (.tup ha)
  | lst l => cases h; obtain ⟨a, vs, rfl, ha, _⟩ := p.lst R; exact .base (.lst ha)
  | _ => cases h
theorem tyNs_of {F : Hp} {io : List Addr} : ∀ {l : List D} {vs : List V} {ns : List String}, Reps F io l vs → tyNs l = some ns → Paired ClsV vs (ns.map Value.type)
  | [], _, _, .nil, e => by cases e; exact .nil
  | d :: l, _, ns, .cons r t, e => by
    cases d with
    | cst v =>
      cases v with
      | ty n =>
        cases r
        cases k : tyNs l with
        | none =>
          have e : (tyNs l).map (n :: ·) = some ns := e
          rw [k] at e
          cases e
        | some ms =>
          have e : (tyNs l).map (n :: ·) = some ns := e
          rw [k] at e
          cases e
          exact .cons (.ty n) (tyNs_of t k)
      | _ => cases e
    | _ => cases e
theorem isiAny_of {K : PySem.W.Frag} {a : String} : ∀ {ns : List String} {b : Bool}, isiAny a ns = some b → PySem.W.kitAny K (.type a) (ns.map Value.type) = some b
  | [], b, e => by cases e; rfl
  | n :: ns, b, e => by
    unfold isiAny at e
    cases k : L2.kitB a n with
    | none => rw [k] at e; cases e
    | some c =>
      rw [k] at e
      cases c with
      | true => cases e; exact kitAny_cons (kit_ty k) (fun z => by cases z) fun _ => rfl
      | false => exact kitAny_cons (kit_ty k) (fun _ => isiAny_of e) fun z => by cases z
theorem ca_isi (K : PySem.W.Frag) : CaD pw w fIsi (fun xs H Q => rIsi K xs H Q ∨ rIsiT K xs H Q) := by
  intro x e m s H Q ds vs R ps h
  unfold fIsi at h
  split at h
  · rename_i d n
    obtain ⟨v, v', rfl, pa, pb⟩ := ps.two
    cases ht : tyD d with
    | none => rw [ht] at h; exact h.elim
    | some a =>
      rw [ht] at h
      have h : Fin PV w x e s H Q (ofO ((L2.kitB a n).map D.bl) m) := h
      cases hk : L2.kitB a n with
      | none => rw [hk] at h; exact h.elim
      | some b =>
        rw [hk] at h
        rcases pb with q | ⟨_, _, _, e1, _⟩ | ⟨_, _, _, _, _, e1, _⟩
        · cases q
          exact .inl ⟨v, .ty n, .type a, .type n, b, rfl, .ty n, tyX_of R pa ht, kit_ty hk, Fin.here R h (.bl _)⟩
        · cases e1
        · cases e1
  · rename_i d l
    obtain ⟨v, v', rfl, pa, pb⟩ := ps.two
    cases ht : tyD d with
    | none => rw [ht] at h; exact h.elim
    | some a =>
      cases hn : tyNs l with
      | none => rw [ht, hn] at h; exact h.elim
      | some ns =>
        rw [ht, hn] at h
        have h : Fin PV w x e s H Q (ofO ((isiAny a ns).map D.bl) m) := h
        cases hk : isiAny a ns with
        | none => rw [hk] at h; exact h.elim
        | some b =>
          rw [hk] at h
          obtain ⟨tp, cs, rfl, _, hp, q⟩ := pb.tup R
          exact .inr ⟨v, tp, cs, .type a, ns.map Value.type, b, rfl, hp, tyNs_of q hn, tyX_of R pa ht, isiAny_of hk, Fin.here R h (.bl _)⟩
  · exact h.elim
theorem de_isi {b : Expr} {fb : SE} (hg : Gl X "isinstance") (hm : X.mg "isinstance" = none) (ha : DK X w a fa) (hb : DK X w b fb) (hs : starEach [a, b] X.env = (false, eval a X.env) :: starEach [b] X.env := by rfl) (hs' : starEach [b] X.env = [(false, eval b X.env)] := by rfl) (hpl : (backTo pos (starEach [b] X.env)).any (·.1) = false := by rfl) :
    DE X w (.Call (.Name "isinstance" p) [a, b] [] pos) (sCall fIsi (aCons fa (aCons fb aNil))) :=
  de_callB (CallR.or call_isi call_isiT) (ca_isi _) hg hm PyProof.Rows.boot_isinstance (dk_cons ha (dk_cons hb dk_nil hs') hs) (by decide) (by decide) hs hpl
end
end Dl
set_option autoImplicit true
/-! The data layer: the law's own draws (an object of two lists, handed on). -/
namespace Dl
open PySem PySem.Spec PyProof.Rows L2 TL

def rAdd0 : R2 := rI0 fun i j => .int (i + j)
def rMul0 : R2 := rI CMul fun i j => .int (i * j)
def rMod0 : R2 := rI (fun _ j => 0 < j) fun i j => .int (i % j)
def rDiv0 : R2 := rI CDivW fun i j => .int (i / j)
def rPow0 : R2 := rI CPow fun i j => .int (i ^ j.toNat)
def rGe0 : R2 := rI0 fun i j => .bl (decide (j ≤ i))
def rListOf (K : PySem.W.Frag) : List V → Hp → VK → Prop := fun xs H Q => ∃ p ys, xs = [.ref p] ∧ (SqL K H p ys ∨ SqT K H p ys) ∧ ∀ l, H l = none → Q (.ref l) (upd H l (.lst ys))
def rLenOf (K : PySem.W.Frag) : List V → Hp → VK → Prop := fun xs H Q => ∃ x n, xs = [x] ∧ LenV K x H n ∧ Q (.int n) H
def rMax2 : List V → Hp → VK → Prop := fun xs H Q => ∃ i j, xs = [.int i, .int j] ∧ Q (.int (if j > i then j else i)) H
/-! ### the start -/
def mix1 (s c : Int) : Int := (s * 48271 + c % 2147483629 + 1) % 2147483647
def mixS (cs : List Int) (s : Int) : Int := cs.foldl mix1 s
def t_mix (K : PySem.W.Frag) : TS := tSeq (tAsg (tVar 1) (L2.gName 2)) (tSeq (tFor (iList K (tVar 0)) (L2.gName 3) (tAsg (tOp rMod0 (tOp rAdd0 (tOp rAdd0 (tOp rMul0 (tVar 2) (tC (.int 48271))) (tOp rMod0 (tVar 3) (tC (.int 2147483629)))) (tC (.int 1))) (tC (.int 2147483647))) (L2.gName 2)))
  (tRet (tLst (tCons (tVar 2) (tCons (tCB (rListOf K) (tCons (tVar 0) tNil)) (tCons (tC (.int 0)) tNil))))))
def spMix (K : PySem.W.Frag) : Sp := fun vs H Q _ => ∃ a cs seed, vs = [.ref a, .int seed] ∧ SqL K H a (cs.map V.int) ∧ ∀ b p, H b = none → H p = none → p ≠ b → Q (.ref p) (upd (upd H b (.lst (cs.map V.int))) p (.lst [.int (mixS cs seed), .ref b, .int 0]))
theorem mixS_more {cs : List Int} {i : Nat} {c seed : Int} (h : cs[i]? = some c) : mixS (cs.take (i + 1)) seed = mix1 (mixS (cs.take i) seed) c := by
  unfold mixS
  rw [List.take_add_one, h, List.foldl_append]
  rfl
theorem pure_mix {K : PySem.W.Frag} (N : List Str) (hN : N.length = 4) (vs : List V) (H : Hp) (Q : VK) (E : XK) (h : spMix K vs H Q E) : t_mix K { nx := fun _ H' => Q .non H', rt := Q } (L2.start N vs) H := by
  obtain ⟨a, cs, seed, rfl, hS, k⟩ := h
  have e : L2.start N [.ref a, .int seed] = [some (.ref a), some (.int seed), none, none] := by
    unfold L2.start
    rw [hN]
    rfl
  rw [e]
  refine ⟨_, rfl, _, rfl, a, rfl, ⟨_, hS⟩, for_list (K := K) (a := a) (xs := cs.map V.int) (fun i σ H' => ∃ v : Option V, σ = [some (.ref a), some (.int seed), some (.int (mixS (cs.take i) seed)), v] ∧ H' = H) ⟨none, rfl, rfl⟩ (fun i σ H' _ ⟨_, _, e⟩ => e ▸ hS) ?_ ?_⟩
  · rintro i y σ H' hi ⟨v, rfl, rfl⟩
    obtain ⟨z, hz, rfl⟩ : ∃ z, cs[i]? = some z ∧ y = V.int z := by
      rw [List.getElem?_map] at hi
      cases e : cs[i]? with
      | none => rw [e] at hi; cases hi
      | some z => rw [e] at hi; exact ⟨z, rfl, (Option.some.inj hi).symm⟩
    have step := mixS_more (seed := seed) hz
    refine ⟨_, rfl, _, _, rfl, rfl, .inr (by decide), _, rfl, _, _, rfl, rfl, (by show (0 : Int) < 2147483629; decide), _, _, rfl, rfl, _, _, rfl, rfl, _, _, rfl, rfl, (by show (0 : Int) < 2147483647; decide), ?_⟩
    refine ⟨some (.int z), ?_, rfl⟩
    rw [step]
    rfl
  · rintro σ H' ⟨v, rfl, rfl⟩
    rw [List.length_map, List.take_length]
    refine ⟨_, rfl, _, rfl, a, _, rfl, .inl hS, fun b hb => ⟨by show 3 ≤ sizeLine; decide, fun p hp => ?_⟩⟩
    have hne : p ≠ b := fun e => by rw [e, upd_same] at hp; cases hp
    exact k b p hb (by rw [upd_ne hne] at hp; exact hp) hne

/-! ### a draw -/
def nextD (s : Int) (cs : List Int) (p many : Int) : Int × MObj :=
  let c := (cs ++ [0]).getD (p % (max 1 cs.length : Nat)).toNat 0
  if 10 ^ 18 ≤ c then (c % many, .drw s (cs.set (p % cs.length).toNat (c / many)) p)
  else let s' := (s * 48271 + c * 69621 + 11) % 2147483647
    (s' / 7 % many, .drw s' cs (p + 1))
def fNext : Fd := fun ds m => match ds with
  | [.obj n, .int many] => match m[n]? with
    | some (.drw s cs p) => if 0 < many ∧ many < 18446744073709551616 ∧ 0 ≤ p ∧ cs.length < LIM then .ok (.int (nextD s cs p many).1) (m.set n (nextD s cs p many).2) else .bad
    | _ => .bad
  | _ => .bad
section
variable {x : Sx pw} {m : Sto} {H H' : Hp} {n : Nat} {K : PySem.W.Frag}
theorem obj_end {s s' : Int} {cs cs' : List Int} {p p' : Int} {a : Addr} (R : Rel x [] m [] H) (hn : m[n]? = some (.drw s cs p)) (ha : x.io[n]? = some a) : ∃ b, a ≠ b ∧ H a = some (.lst [.int s, .ref b, .int p]) ∧ H b = some (.lst (cs.map V.int)) ∧
    ∀ H', (∀ c o, H c = some o → c ≠ a → c ≠ b → H' c = some o) → (∀ c, H' c = none → H c = none) → H' a = some (.lst [.int s', .ref b, .int p']) → H' b = some (.lst (cs'.map V.int)) → ∃ y : Sx pw, Rel y [] (m.set n (.drw s' cs' p')) [] H' ∧ StE x H y H' := by
  obtain ⟨a1, A0, A', e1, pm, ob, wr⟩ := R.sto.at hn
  rw [ha] at e1
  cases e1
  cases ob with
  | @drw _ b _ _ _ h1 h2 =>
    have ndA : (a :: b :: A').Nodup := (pm.nodup_iff).mp (List.nodup_append.mp R.nd).2.1
    have hab : a ≠ b := fun e => (List.nodup_cons.mp ndA).1 (by simp [e])
    have in2 : ∀ c, c ∈ x.A2 ↔ c = a ∨ c = b ∨ c ∈ A' := fun c => by rw [pm.mem_iff]; simp
    refine ⟨b, hab, h1, h2, fun H' keep there ha' hb' => ?_⟩
    have kA : Keep A' H H' := fun c hc o e => keep c o e (fun z => (List.nodup_cons.mp ndA).1 (by subst z; exact List.mem_cons_of_mem _ hc)) fun z => (List.nodup_cons.mp (List.nodup_cons.mp ndA).2).1 (by subst z; exact hc)
    obtain ⟨A2, pm2, st2⟩ := wr (F' := x.F) (io' := x.io) (H' := H') (.refl _) (.refl _) kA (ObjR.drw (m := s') (p := p') (cs := cs') ha' hb')
    have in3 : ∀ c, c ∈ A2 ↔ c ∈ x.A2 := fun c => by rw [pm2.mem_iff, pm.mem_iff]
    have eA1 : x.A1 = [] := by
      have := R.vars
      cases h : x.A1 with
      | nil => rfl
      | cons a l => rw [h] at this; cases this
    have ne : ∀ c o, x.F c = some o → c ≠ a ∧ c ≠ b := fun c o e => by
      constructor
      · intro z
        rw [z, R.nF a (List.mem_append_right _ ((in2 a).mpr (.inl rfl)))] at e
        cases e
      · intro z
        rw [z, R.nF b (List.mem_append_right _ ((in2 b).mpr (.inr (.inl rfl))))] at e
        cases e
    refine ⟨(x.w2 (A2)), ⟨fun c o e => keep c o (R.sub c o e) (ne c o e).1 (ne c o e).2, ?_, st2, ?_, fun c hc => ?_⟩, ⟨⟨.refl _, .refl _, fun c o e hc => keep c o e (fun z => hc ((in2 c).mpr (.inl z))) fun z => hc ((in2 c).mpr (.inr (.inl z))), there, fun c h1 h2 => absurd h1 h2, fun c hc => .inl ((in3 c).mp hc)⟩, rfl⟩⟩
    · show Vars pw _ _ _ _ _ x.A1
      rw [eA1]
      exact .nil
    · show (x.A1 ++ A2).Nodup
      rw [eA1, List.nil_append]
      exact (pm2.nodup_iff).mpr ndA
    · refine R.nF c ?_
      rcases List.mem_append.mp hc with q | q
      · exact List.mem_append_left _ q
      · exact List.mem_append_right _ ((in3 c).mp q)
def t_next (K : PySem.W.Frag) : TS :=
  tSeq (tAsg (tOp (rIxL K) (tOp rCat (tOp (rIxL K) (tVar 0) (tC (.int 1))) (tLst (tCons (tC (.int 0)) tNil))) (tOp rMod0 (tOp (rIxL K) (tVar 0) (tC (.int 2))) (tCB rMax2 (tCons (tC (.int 1)) (tCons (tCB (rLenOf K) (tCons (tOp (rIxL K) (tVar 0) (tC (.int 1))) tNil)) tNil))))) (L2.gName 2))
  (tSeq (tIfS (tTest (tOp rGe0 (tVar 2) (tOp rPow0 (tC (.int 10)) (tC (.int 18)))))
    (tSeq (tAsg (tOp rDiv0 (tVar 2) (tVar 1)) (gSub (tOp (rIxL K) (tVar 0) (tC (.int 1))) (tOp rMod0 (tOp (rIxL K) (tVar 0) (tC (.int 2))) (tCB (rLenOf K) (tCons (tOp (rIxL K) (tVar 0) (tC (.int 1))) tNil))) rSetL)) (tRet (tOp rMod0 (tVar 2) (tVar 1)))) tNext)
  (tSeq (tAsg (tOp rMod0 (tOp rAdd0 (tOp rAdd0 (tOp rMul0 (tOp (rIxL K) (tVar 0) (tC (.int 0))) (tC (.int 48271))) (tOp rMul0 (tVar 2) (tC (.int 69621)))) (tC (.int 11))) (tC (.int 2147483647))) (gSub (tVar 0) (tC (.int 0)) rSetL))
  (tSeq (tAsg (tOp rAdd0 (tOp (rIxL K) (tVar 0) (tC (.int 2))) (tC (.int 1))) (gSub (tVar 0) (tC (.int 2)) rSetL))
  (tRet (tOp rMod0 (tOp rDiv0 (tOp (rIxL K) (tVar 0) (tC (.int 0))) (tC (.int 7))) (tVar 1))))))
theorem upd_there {H2 : Hp} {b : Addr} {u : HO} (kt : ∀ c, H2 c = none → H c = none) : ∀ d, upd H2 b u d = none → H d = none := fun d e => by
  by_cases z : d = b
  · rw [z, upd_same] at e; cases e
  · rw [upd_ne z] at e; exact kt d e
theorem ixN_mod {p : Int} {n : Nat} (h : 0 < n) : ixN n (p % (n : Int)) = some (p % (n : Int)).toNat := by
  have h1 : 0 ≤ p % (n : Int) := Int.emod_nonneg _ (by omega)
  have h2 : p % (n : Int) < n := Int.emod_lt_of_pos _ (by omega)
  unfold ixN
  rw [if_pos h1, if_pos h2]
theorem pure_next {t : Tf} (N : List Str) (hN : N.length = 3) (vs : List V) (H : Hp) (Q : VK) (E : XK) (h : spF pw t 2 fNext vs H Q E) : t_next K { nx := fun _ H' => Q .non H', rt := Q } (L2.start N vs) H := by
  obtain ⟨hl, x, m, ds, R, rp, q⟩ := h
  unfold fNext at q
  split at q
  · rename_i n many
    split at q
    · rename_i s cs p hn
      obtain ⟨⟨hm0, hm1, hp0, hcs⟩, q⟩ := Fin.ite q
      cases rp with
      | @cons _ v1 _ _ r1 rp =>
        cases rp with
        | @cons _ v2 _ _ r2 rp =>
          cases rp
          cases r2
          cases r1 with
          | @obj _ a ha =>
            have e : L2.start N [.ref a, .int many] = [some (.ref a), some (.int many), none] := by
              unfold L2.start
              rw [hN]
              rfl
            rw [e]
            have hcz : (cs.map V.int).length + 1 ≤ sizeLine := by rw [List.length_map, ← lim_eq]; omega
            obtain ⟨b, hab, h1, h2, fin⟩ := obj_end (s' := match (nextD s cs p many).2 with | .drw s' _ _ => s' | _ => 0) (cs' := match (nextD s cs p many).2 with | .drw _ c _ => c | _ => []) (p' := match (nextD s cs p many).2 with | .drw _ _ p' => p' | _ => 0) R hn ha
            obtain ⟨c, hc⟩ : ∃ c, c = (cs ++ [0]).getD (p % (max 1 cs.length : Nat)).toNat 0 := ⟨_, rfl⟩
            have hlt : (p % (max 1 cs.length : Nat)).toNat < (cs ++ [0]).length := by
              have z1 : 0 ≤ p % ((max 1 cs.length : Nat) : Int) := Int.emod_nonneg _ (by omega)
              have z2 : p % ((max 1 cs.length : Nat) : Int) < (max 1 cs.length : Nat) := Int.emod_lt_of_pos _ (by omega)
              rw [List.length_append]
              simp only [List.length_singleton]
              omega
            have hat : atI ((cs ++ [0]).map V.int) (p % (max 1 cs.length : Nat)) = some (.int c) := by
              unfold atI
              rw [List.length_map]
              have z1 : 0 ≤ p % ((max 1 cs.length : Nat) : Int) := Int.emod_nonneg _ (by omega)
              have z3 : p % ((max 1 cs.length : Nat) : Int) < ((cs ++ [0]).length : Nat) := by omega
              unfold ixN
              rw [if_pos z1, if_pos z3]
              show ((cs ++ [0]).map V.int)[(p % (max 1 cs.length : Nat)).toNat]? = _
              rw [List.getElem?_map, List.getElem?_eq_getElem hlt, hc, List.getD_eq_getElem?_getD, List.getElem?_eq_getElem hlt]
              rfl
            have nb : ∀ q1, H q1 = none → a ≠ q1 ∧ b ≠ q1 := fun q1 hq => ⟨fun z => (by rw [← z, h1] at hq; cases hq), fun z => (by rw [← z, h2] at hq; cases hq)⟩
            -- the cell
            refine ⟨_, rfl, a, _, 1, .ref b, rfl, rfl, SqL.of h1, rfl, ⟨by show 1 ≤ sizeLine; decide, fun q1 hq1 => ?_⟩⟩
            have nb1 := nb q1 hq1
            have g1 : upd H q1 (.lst [.int 0]) a = some (.lst [.int s, .ref b, .int p]) := by rw [upd_ne nb1.1]; exact h1
            have g2 : upd H q1 (.lst [.int 0]) b = some (.lst (cs.map V.int)) := by rw [upd_ne nb1.2]; exact h2
            refine ⟨b, q1, _, _, rfl, rfl, g2, upd_same, hcz, fun q2 hq2 => ?_⟩
            have nq : q2 ≠ q1 := fun z => by rw [z, upd_same] at hq2; cases hq2
            have hq2' : H q2 = none := by rw [upd_ne nq] at hq2; exact hq2
            have nb2 := nb q2 hq2'
            obtain ⟨H2, hH2⟩ : ∃ H2, H2 = upd (upd H q1 (.lst [.int 0])) q2 (.lst (cs.map V.int ++ [.int 0])) := ⟨_, rfl⟩
            rw [← hH2]
            have k1 : H2 a = some (.lst [.int s, .ref b, .int p]) := by rw [hH2, upd_ne nb2.1]; exact g1
            have k2 : H2 b = some (.lst (cs.map V.int)) := by rw [hH2, upd_ne nb2.2]; exact g2
            have k3 : H2 q2 = some (.lst ((cs ++ [0]).map V.int)) := by rw [hH2, upd_same]; simp
            have kp : ∀ c o, H c = some o → H2 c = some o := fun c o e => by
              rw [hH2, upd_ne (ne_of_none e hq2'), upd_ne (ne_of_none e hq1)]
              exact e
            have kt : ∀ c, H2 c = none → H c = none := fun c e => by
              cases z : H c with
              | none => rfl
              | some o => rw [kp c o z] at e; cases e
            have emax : (if ((cs.length : Nat) : Int) > 1 then ((cs.length : Nat) : Int) else 1) = ((max 1 cs.length : Nat) : Int) := by
              by_cases z : ((cs.length : Nat) : Int) > 1
              · rw [if_pos z]; omega
              · rw [if_neg z]; omega
            refine ⟨_, rfl, a, _, 2, .int p, rfl, rfl, SqL.of k1, rfl, _, rfl, a, _, 1, .ref b, rfl, rfl, SqL.of k1, rfl, _, cs.length, rfl, .inl ⟨_, SqL.of k2, by simp⟩, 1, _, rfl, p, _, rfl, rfl, ?_, ?_⟩
            · rw [emax]; omega
            rw [emax]
            refine ⟨q2, _, _, .int c, rfl, rfl, SqL.of k3, hat, ?_⟩
            -- the test
            refine ⟨_, rfl, _, _, rfl, rfl, ⟨by decide, by decide, by decide⟩, c, _, rfl, rfl, _, rfl, ?_⟩
            by_cases hbig : (10 : Int) ^ 18 ≤ c
            · have eN : nextD s cs p many = (c % many, .drw s (cs.set (p % cs.length).toNat (c / many)) p) := by
                unfold nextD
                rw [← hc]
                exact if_pos hbig
              have hpos : 0 < cs.length := by
                cases cs with
                | nil =>
                  exfalso
                  have z : c = 0 := by
                    rw [hc]
                    cases (p % (max 1 ([] : List Int).length : Nat)).toNat with
                    | zero => rfl
                    | succ k => rfl
                  rw [z] at hbig
                  exact absurd hbig (by decide)
                | cons c cs => exact Nat.succ_pos _
              refine (if_pos (decide_eq_true hbig)).mpr ?_
              rw [eN] at fin q
              refine ⟨_, rfl, _, rfl, c, many, rfl, rfl, divW ⟨hm0, hm1⟩, ?_⟩
              refine ⟨_, rfl, a, _, 1, .ref b, rfl, rfl, SqL.of k1, rfl, ?_⟩
              refine ⟨_, rfl, a, _, 2, .int p, rfl, rfl, SqL.of k1, rfl, _, rfl, a, _, 1, .ref b, rfl, rfl, SqL.of k1, rfl, _, cs.length, rfl, .inl ⟨_, SqL.of k2, by simp⟩, p, _, rfl, rfl, by omega, ?_⟩
              refine ⟨b, _, _, (p % (cs.length : Int)).toNat, rfl, rfl, k2, by rw [List.length_map]; exact ixN_mod hpos, ?_⟩
              refine ⟨_, rfl, _, rfl, c, many, rfl, rfl, hm0, ?_⟩
              obtain ⟨y, Ry, sy⟩ := fin (upd H2 b (.lst ((cs.map V.int).set (p % (cs.length : Int)).toNat (.int (c / many))))) (fun d o e _ n2 => by rw [upd_ne n2]; exact kp d o e) (upd_there kt) (by rw [upd_ne hab]; exact k1) (by rw [upd_same, List.map_set])
              exact q _ y _ Ry (.int _) sy
            · have eN : nextD s cs p many = ((s * 48271 + c * 69621 + 11) % 2147483647 / 7 % many, .drw ((s * 48271 + c * 69621 + 11) % 2147483647) cs (p + 1)) := by
                unfold nextD
                rw [← hc]
                exact if_neg hbig
              refine (if_neg (by simpa using hbig)).mpr ?_
              rw [eN] at fin q
              have hne : ∀ {u : HO} , upd H2 a u b = some (.lst (cs.map V.int)) := fun {u} => by rw [upd_ne (Ne.symm hab)]; exact k2
              refine ⟨_, rfl, a, _, 0, .int s, rfl, rfl, SqL.of k1, rfl, s, _, rfl, rfl, .inr (by decide), _, rfl, c, _, rfl, rfl, .inr (by decide), _, _, rfl, rfl, _, _, rfl, rfl, _, _, rfl, rfl, (by show (0 : Int) < 2147483647; decide), ?_⟩
              refine ⟨_, rfl, a, _, 0, 0, rfl, rfl, k1, rfl, ?_⟩
              refine ⟨_, rfl, a, _, 2, .int p, rfl, rfl, SqL.of upd_same, rfl, p, _, rfl, rfl, ?_⟩
              refine ⟨_, rfl, a, _, 2, 2, rfl, rfl, upd_same, rfl, ?_⟩
              refine ⟨_, rfl, a, _, 0, .int _, rfl, rfl, SqL.of upd_same, rfl, _, _, rfl, rfl, divW ⟨by decide, by decide⟩, _, rfl, _, many, rfl, rfl, hm0, ?_⟩
              obtain ⟨y, Ry, sy⟩ := fin (upd (upd H2 a (.lst [.int ((s * 48271 + c * 69621 + 11) % 2147483647), .ref b, .int p])) a (.lst [.int ((s * 48271 + c * 69621 + 11) % 2147483647), .ref b, .int (p + 1)])) (fun d o e n1 _ => by rw [upd_ne n1, upd_ne n1]; exact kp d o e) (upd_there (upd_there kt)) upd_same (by rw [upd_ne (Ne.symm hab)]; exact hne)
              exact q _ y _ Ry (.int _) sy
    · exact q.elim
  · exact q.elim
end
end Dl
set_option autoImplicit true
/-! The data layer: what can be called by its name; a def that calls itself; the law's own def. -/
namespace Dl
open PySem PySem.Spec PyProof.Rows L2 TL

/-- a def of the text as it stands behind the top -/
structure DefIs (K : PySem.W.Frag) (mg : Str → Option Value) (x : Str) (st : Stmt) : Prop where
  ex : ∃ f fd, Fun K x x st f fd ∧ mg x = some (.ref f)
/-- what can be called by its name -/
structure Cal (P : Program) (w : World) (K : PySem.W.Frag) (mg : Str → Option Value) (base : Heap) (k : Nat) (x : Str) (n : Nat) (t : Tf) (φ : Fd) : Prop where
  ex : ∃ f fd ps, FnOk P w K mg base (L2.CX P w) k f fd ps (spF (P, w, mg) t n φ) ∧ mg x = some (.ref f) ∧ PySem.W.keepIn K (.ref f) = true ∧ Binds K fd ps []
section
variable {P : Program} {w : World} {K : PySem.W.Frag} {mg : Str → Option Value} {base : Heap} {k j n : Nat} {x : Str} {t : Tf} {φ ψ : Fd} {st : Stmt} {N ps : List Str} {b : SS}
theorem Cal.mono (C : Cal P w K mg base j x n t φ) (h : j ≤ k) : Cal P w K mg base k x n t φ := by
  obtain ⟨f, fd, ps, F, r⟩ := C.ex
  exact ⟨f, fd, ps, F.mono h, r⟩
theorem Cal.as (C : Cal P w K mg base k x n t φ) (h : ∀ ds m, ds.length = n → ψ ds m = .bad ∨ ψ ds m = φ ds m) : Cal P w K mg base k x n t ψ := by
  obtain ⟨f, fd, ps, F, r⟩ := C.ex
  exact ⟨f, fd, ps, fn_as F h, r⟩
abbrev BindsOk (st : Stmt) (x : Str) (ps : List Str) : Prop := ∀ (kV doc pm : Value) (an : Option Addr) (cdv ct : Value) (us : List Value), us.length = ps.length → bindArgs (PySem.W.fnOf x x (defArgs st) (defBody st) (defScope st) .none kV doc pm an cdv ct) ⟨us, []⟩ = pure (ps.zip us)
theorem Cal.of (D : DefIs K mg x st) (S : FnScope N ps (defScope st)) (hb : BindsOk st x ps)
    (hbody : ∀ (f : Addr) (cdv : Value) (A : Around) (outer : List PySem.Env) (s : Shared) (H : Hp) (E : XK), Room k (A.deeper (envOfC x (defScope st) s.heap.objs.size f cdv)) → DSs (cxOf (L2.CX P w) P w K mg base N x (defScope st) f cdv A outer s H E) (t.wi E) (defBody st) b) :
    Cal P w K mg base (k + 1) x ps.length t (fD N b) := by
  obtain ⟨f, fd, F, hm⟩ := D.ex
  exact ⟨f, fd, ps, fn_def F S (hbody f), hm, F.kp, F.binds hb⟩
/-- by another Sp -/
theorem Cal.raw (D : DefIs K mg x st) (S : FnScope N ps (defScope st)) (hb : BindsOk st x ps) {tt : TS}
    (hbody : ∀ (f : Addr) (cdv : Value) (A : Around) (outer : List PySem.Env) (s : Shared) (H : Hp) (E : XK), Room k (A.deeper (envOfC x (defScope st) s.heap.objs.size f cdv)) → PSs (cxOf (L2.CX P w) P w K mg base N x (defScope st) f cdv A outer s H E) (defBody st) tt)
    (hp : ∀ vs H Q E, spF (P, w, mg) t ps.length φ vs H Q E → tt { nx := fun _ H' => Q .non H', rt := Q } (L2.start N vs) H) : Cal P w K mg base (k + 1) x ps.length t φ := by
  obtain ⟨f, fd, F, hm⟩ := D.ex
  exact ⟨f, fd, ps, F.okX S (fun vs H Q E h => h.1) fun cdv A outer s H vs Q E hr h => ⟨tt, hbody f cdv A outer s H E hr, hp vs H Q E h⟩, hm, F.kp, F.binds hb⟩
theorem Cal.none (D : DefIs K mg x st) (hb : BindsOk st x ps) : Cal P w K mg base 0 x ps.length t (fun _ _ => .bad) := by
  obtain ⟨f, fd, F, hm⟩ := D.ex
  exact ⟨f, fd, ps, ⟨fun vs H Q E h => h.1, fun A outer s H args us vs Q E _ _ _ _ h => by
    obtain ⟨_, _, _, _, _, _, q⟩ := h
    exact q.elim⟩, hm, F.kp, F.binds hb⟩
/-- a def that calls itself, so many times deep -/
def recF (body : Fd → Fd) : Nat → Fd
  | 0 => fun _ _ => .bad
  | d + 1 => body (recF body d)
theorem Cal.recur {body : Fd → Fd} (C0 : Cal P w K mg base j x n t (fun _ _ => .bad)) (h : ∀ (k : Nat) (φ : Fd), j ≤ k → Cal P w K mg base k x n t φ → Cal P w K mg base (k + 1) x n t (body φ)) : ∀ d, Cal P w K mg base (j + d) x n t (recF body d)
  | 0 => C0
  | d + 1 => h (j + d) (recF body d) (Nat.le_add_right _ _) (Cal.recur C0 h d)
end
section
variable {X : Cx} {w : Wi} {k n : Nat} {φ : Fd} {nm : Str} {p pos : Pos} {e : Expr} {es : List Expr} {g : SL}
theorem de_callC (C : Cal X.prog X.w X.K X.mg X.base k nm n w.tf φ) (hr : Room k X.A) (hg : Gl X nm) (tk : L2.Takes X w.W) (ha : DA X w (e :: es) g) (hdb : (nm == ("__debug__" : Str)) = false := by decide) (he : starEach (e :: es) X.env = (false, eval e X.env) :: starEach es X.env := by rfl) (hpl : (backTo pos (starEach es X.env)).any (·.1) = false := by rfl) :
    DE X w (.Call (.Name nm p) (e :: es) [] pos) (sCall (callF n φ) g) := by
  obtain ⟨f, fd, ps, F, hm, hk, hb⟩ := C.ex
  exact de_call rfl F hr hg hm hk hb tk ha hdb he hpl
end

/-! ### the law's own def: _law_h = _law_mix(script, seed), then the rest -/
def spLaw (K : PySem.W.Frag) : Sp := fun vs H Q _ => ∃ (a : Addr) (ns : List Int), vs = [.ref a] ∧ ns.length ≤ 63 ∧ SqL K H a (ns.map V.int) ∧ L2.Only H ∧ ∀ H', Q (.bl true) H'
def lawE (N : List Str) (a : Addr) : Env := some (.val (.cst (.ref a))) :: some (.val (.obj 0)) :: List.replicate (N.length - 2) none
/-- what the rest of the law's def comes to -/
def LawOk (N : List Str) (seed : Int) (g : SS) : Prop := ∀ (a : Addr) (ns : List Int), ns.length ≤ 63 → ∃ m, g (lawE N a) [.drw (mixS ns seed) ns 0] = .rt (.bl true) m
theorem law_start {K : PySem.W.Frag} {w : Wi} {N : List Str} {seed : Int} {g : SS} (h : LawOk N seed g) (h2 : 2 ≤ N.length) {vs : List V} {H : Hp} {Q : VK} {E : XK} {We : L2.St → XK} (hs : spLaw K vs H Q E) :
    tSeq (tAsg (tCallS (spMix K) We (tCons (tVar 0) (tCons (tC (.int seed)) tNil))) (L2.gName 1)) (rdS pw w g) { nx := fun _ H' => Q .non H', rt := Q } (L2.start N vs) H := by
  obtain ⟨a, ns, rfl, hl, hS, hO, q⟩ := hs
  have e0 : L2.start N [.ref a] = some (.ref a) :: none :: List.replicate (N.length - 2) none := by
    unfold L2.start
    obtain ⟨k, hk⟩ : ∃ k, N.length = k + 2 := ⟨N.length - 2, by omega⟩
    rw [hk]
    rfl
  rw [e0]
  refine ⟨_, rfl, a, ns, seed, rfl, hS, fun b p hb hp hpb => ?_⟩
  obtain ⟨m, em⟩ := h a ns hl
  obtain ⟨H', hH⟩ : ∃ H', H' = upd (upd H b (.lst (ns.map V.int))) p (.lst [.int (mixS ns seed), .ref b, .int 0]) := ⟨_, rfl⟩
  have hpb' : H' p = some (.lst [.int (mixS ns seed), .ref b, .int 0]) := by rw [hH, upd_same]
  have hbb : H' b = some (.lst (ns.map V.int)) := by rw [hH, upd_ne (Ne.symm hpb), upd_same]
  show rdS pw w g _ (some (.ref a) :: some (.ref p) :: List.replicate (N.length - 2) none) _
  rw [← hH]
  refine ⟨⟨fun _ => none, [p], [], [p, b]⟩, lawE N a, [.drw (mixS ns seed) ns 0], ⟨fun c o z => (by cases z), ?_, Stos.cons (A := []) (ObjR.drw hpb' hbb) .nil, by simpa using hpb, fun _ _ => rfl⟩, ?_⟩
  · refine Vars.cons (A0 := []) (.val (.cst _)) (Vars.cons (A0 := []) (A := []) (.val (.obj rfl)) ?_)
    generalize N.length - 2 = k
    induction k with
    | zero => exact .nil
    | succ k ih => exact .skip ih
  · rw [em]
    intro v y H2 _ rp _
    cases rp
    exact q H2
section
variable {P : Program} {w : World} {K : PySem.W.Frag} {mg : Str → Option Value} {base : Heap} {k : Nat} {x : Str} {st : Stmt} {N ps : List Str}
/-- the draws' start can be called -/
structure MixOk (P : Program) (w : World) (K : PySem.W.Frag) (mg : Str → Option Value) (base : Heap) (k : Nat) (x : Str) : Prop where
  ex : ∃ f fd ps, FnOk P w K mg base (L2.CX P w) k f fd ps (spMix K) ∧ mg x = some (.ref f) ∧ PySem.W.keepIn K (.ref f) = true ∧ Binds K fd ps []
theorem MixOk.of (D : DefIs K mg x st) (S : FnScope N ps (defScope st)) (hb : BindsOk st x ps) (hN : N.length = 4) (hp : ps.length = 2)
    (hbody : ∀ (f : Addr) (cdv : Value) (A : Around) (outer : List PySem.Env) (s : Shared) (H : Hp) (E : XK), Room k (A.deeper (envOfC x (defScope st) s.heap.objs.size f cdv)) → PSs (cxOf (L2.CX P w) P w K mg base N x (defScope st) f cdv A outer s H E) (defBody st) (t_mix K)) : MixOk P w K mg base (k + 1) x := by
  obtain ⟨f, fd, F, hm⟩ := D.ex
  exact ⟨f, fd, ps, F.okX S (fun vs H Q E h => by
    obtain ⟨a, cs, seed, rfl, _⟩ := h
    exact hp.symm) fun cdv A outer s H vs Q E hr h => ⟨t_mix K, hbody f cdv A outer s H E hr, pure_mix N hN vs H Q E h⟩, hm, F.kp, F.binds hb⟩
theorem pss_mix {X : Cx} {w : Wi} {j : Nat} {seed : Int} {g : SS} {hx lx : Str} {p1 p2 p3 p4 p5 p6 : Pos} {jj : Nat} {rest : List Stmt} (M : MixOk X.prog X.w X.K X.mg X.base j x) (hr : Room j X.A) (tk : L2.Takes X w.W) (hg : Gl X x) (nd : X.N.Nodup) (h0 : PE X (.Name lx p3) (tVar 0)) (h1 : X.N[1]? = some hx) (hl : Loc X.env.scope hx)
    (h : DSs X w rest g) (hdb : (x == ("__debug__" : Str)) = false := by decide) (he : starEach [.Name lx p3, .Constant (.int seed) jj p4] X.env = (false, eval (.Name lx p3) X.env) :: starEach [.Constant (.int seed) jj p4] X.env := by rfl)
    (he' : starEach [.Constant (.int seed) jj p4] X.env = (false, eval (.Constant (.int seed) jj p4) X.env) :: starEach [] X.env := by rfl) (hpl : (backTo p5 (starEach [.Constant (.int seed) jj p4] X.env)).any (·.1) = false := by rfl)
    (hs : swapsWith (.Call (.Name x p2) [.Name lx p3, .Constant (.int seed) jj p4] [] p5) (some (.Name hx p1)) p6.line X.env = pure false := by rfl) (hf : X.fn hx = true ∨ X.env.scope.names.lookup hx = some .local := by first | exact .inl rfl | exact .inr rfl | assumption) :
    PSs X (.Assign [.Name hx p1] (.Call (.Name x p2) [.Name lx p3, .Constant (.int seed) jj p4] [] p5) p6 :: rest) (tSeq (tAsg (tCallS (spMix X.K) (WE w.W) (tCons (tVar 0) (tCons (tC (.int seed)) tNil))) (L2.gName 1)) (rdS (pwOf X) w g)) := by
  obtain ⟨f, fd, ps, F, hm, hk, hb⟩ := M.ex
  exact pss_cons (ps_set (i := 1) nd h1 hl (pe_callS F hr hg hm hk hb (fun σ => passAt tk σ) (pa_cons h0 (pa_cons pe_int pa_nil he') he) hdb he hpl) hs hf) h
theorem law_fn {f : Addr} {fd : FuncData} {lx : Str} {seed : Int} {g : SS} {t : Tf} (F : Fun K "law" "law" st f fd) (S : FnScope N [lx] (defScope st)) (h : LawOk N seed g) (h2 : 2 ≤ N.length)
    (hbody : ∀ (cdv : Value) (A : Around) (outer : List PySem.Env) (s : Shared) (H : Hp) (E : XK), Room k (A.deeper (envOfC "law" (defScope st) s.heap.objs.size f cdv)) → PSs (cxOf (L2.CX P w) P w K mg base N "law" (defScope st) f cdv A outer s H E) (defBody st) (tSeq (tAsg (tCallS (spMix K) (WE (t.wi E).W) (tCons (tVar 0) (tCons (tC (.int seed)) tNil))) (L2.gName 1)) (rdS (P, w, mg) (t.wi E) g))) :
    FnOk P w K mg base (L2.CX P w) (k + 1) f fd [lx] (spLaw K) :=
  F.okX S (fun vs H Q E h => by
    obtain ⟨a, ns, rfl, _⟩ := h
    rfl) fun cdv A outer s H vs Q E hr hs => ⟨_, hbody cdv A outer s H E hr, law_start h h2 hs⟩
end
end Dl
set_option autoImplicit true
/-! The data layer: a few rules in the form in which they are printed. -/
namespace Dl
open PySem PySem.Spec PyProof.Rows L2 TL
section
variable {X : Cx} {w : Wi} {pos : Pos} {e o : Expr} {fe : SE}
theorem de_gstrE (l : List Nat) {x y : Str} (hg : Gl X x) (hm : ∃ t, X.mg x = some (.str y t)) (h : y = ⟨l.toArray⟩ := by decide +kernel) (hd : (x == ("__debug__" : Str)) = false := by decide) : DE X w (.Name x pos) (sC (.str l)) :=
  let ⟨t, hm⟩ := hm
  de_gstr l hg hm h hd
theorem de_gintE {i : Int} {x : Str} (hg : Gl X x) (hm : ∃ t, X.mg x = some (.int i t)) (hd : (x == ("__debug__" : Str)) = false := by decide) : DE X w (.Name x pos) (sC (.int i)) :=
  let ⟨t, hm⟩ := hm
  de_gint hg hm hd
theorem ds_appD {i : Nat} {p1 p2 : Pos} (ho : PE X o (tVar i)) (ha : DE X w e fe)
    (hs : swapsWith (.Call (.Attribute o "append" p1) [e] [] p2) none pos.line X.env = pure false := by rfl) (hst : starEach [e] X.env = [(false, eval e X.env)] := by rfl)
    (hbase : attributeBase o "append" X.env (eval o X.env) = eval o X.env := by rfl)
    (hfew : ((backTo p2 (starEach [e] X.env)).all (fun x => !x.1) && (backToKw p2 (keywordEach [] X.env)).all (fun x => x.1.isSome)
      && decide ([e].length + ([] : List Keyword).length + (if ([] : List Keyword).isEmpty then 0 else 1) < 30)) = true := by rfl)
    (hline : (p1.endLine == p2.line) = true := by rfl) (hpl : (backTo p2 (starEach [] X.env)).any (·.1) = false := by rfl) :
    DS X w (.Expr (.Call (.Attribute o "append" p1) [e] [] p2) pos) (sApp i fe) :=
  ds_app ho ha hs hst (pe_bm PySem.F.plainAttrs_list PySem.F.slot_list_append PySem.F.type_list_append mt_append ho (pa_cons ha pa_nil hst) hbase hfew hline hst hpl)
theorem ds_extD {i : Nat} {p1 p2 : Pos} (ho : PE X o (tVar i)) (ha : DE X w e fe)
    (hs : swapsWith (.Call (.Attribute o "extend" p1) [e] [] p2) none pos.line X.env = pure false := by rfl) (hst : starEach [e] X.env = [(false, eval e X.env)] := by rfl)
    (hbase : attributeBase o "extend" X.env (eval o X.env) = eval o X.env := by rfl)
    (hfew : ((backTo p2 (starEach [e] X.env)).all (fun x => !x.1) && (backToKw p2 (keywordEach [] X.env)).all (fun x => x.1.isSome)
      && decide ([e].length + ([] : List Keyword).length + (if ([] : List Keyword).isEmpty then 0 else 1) < 30)) = true := by rfl)
    (hline : (p1.endLine == p2.line) = true := by rfl) (hpl : (backTo p2 (starEach [] X.env)).any (·.1) = false := by rfl) :
    DS X w (.Expr (.Call (.Attribute o "extend" p1) [e] [] p2) pos) (sExt i fe) :=
  ds_ext ho ha hs (pe_bm PySem.F.plainAttrs_list PySem.F.slot_list_extend PySem.F.type_list_extend mt_extend ho (pa_cons ha pa_nil hst) hbase hfew hline hst hpl)
end
end Dl
set_option autoImplicit true
/-! The data layer: dicts whose keys are tuples. -/
namespace Dl
open PySem PySem.Spec PyProof.Rows L2 TL
section
variable {P : Program} {w : World} {mg : Str → Option Value} {F H : Hp} {io : List Addr} {h : Heap}
mutual
theorem rep_key (ok : HOk P w H h) (hs : Sub F H) : ∀ {d : D} {v : V} {k : NestedKey} {u : Value}, Rep F io d v → keyOf d = some k → RelV v u → NestedIs h k u
  | _, _, _, _, .non, e, r => by
    cases e
    obtain rfl := (show _ = Value.none from r)
    exact .none
  | _, _, _, _, .bl b, e, r => by
    cases e
    obtain rfl := (show _ = Value.bool b from r)
    exact .bool rfl
  | _, _, _, _, .int i, e, r => by
    cases e
    obtain ⟨t, rfl⟩ := r
    exact .int i t
  | _, _, _, _, .str s, e, r => by
    cases e
    obtain ⟨t, rfl⟩ := r
    exact .text _ t
  | .tup l, _, k, u, .tup (a := a) (vs := vs) e q, ek, r => by
    have ek : (match keysOf l with | some ks => some (NestedKey.tup ks) | none => none) = some k := by rw [← ek]; unfold keyOf; rfl
    cases hk : keysOf l with
    | none => rw [hk] at ek; cases ek
    | some ks =>
      rw [hk] at ek
      cases ek
      obtain rfl := (show u = Value.ref a from r)
      obtain ⟨_, its, rv, o, h1, h2, n, h3⟩ := (show ObjOk P w H h a (.tup vs) from ok a _ (hs _ _ e))
      exact .tup h1 h2 h3 (by simpa using reps_keys ok hs q hk rv)
  | _, _, _, _, .lst _ _, e, _ => by cases e
  | _, _, _, _, .obj _, e, _ => by cases e
  | _, _, _, _, .dct _ _, e, _ => by cases e
  | _, _, _, _, .cst _, e, _ => by cases e
theorem reps_keys (ok : HOk P w H h) (hs : Sub F H) : ∀ {ds : List D} {vs : List V} {ks : List NestedKey} {us : List Value}, Reps F io ds vs → keysOf ds = some ks → Vals vs us → NestedAll h ks us
  | _, _, _, _, .nil, e, r => by
    cases e
    cases r
    exact .nil
  | d :: l, _, ks, _, .cons q t, e, r => by
    have e : (match keyOf d, keysOf l with | some k, some ks => some (k :: ks) | _, _ => none) = some ks := by rw [← e]; (conv => rhs; unfold keysOf) <;> (cases keyOf d <;> cases keysOf l <;> rfl)
    cases hk : keyOf d with
    | none => rw [hk] at e; cases e
    | some k =>
      cases hl : keysOf l with
      | none => rw [hk, hl] at e; cases e
      | some ks =>
        rw [hk, hl] at e
        cases e
        cases r with
        | cons r1 r2 => exact .cons (rep_key ok hs q hk r1) (reps_keys ok hs t hl r2)
end
/-- the tuple at b is the key k -/
def KeyAt (P : Program) (w : World) (H : Hp) (b : Addr) (k : NestedKey) : Prop := ∀ h, HOk P w H h → (nestedKind P w).is h k b
def KeysAt (P : Program) (w : World) (H : Hp) (xs : List (NestedKey × Addr × V)) : Prop := ∀ x ∈ xs, KeyAt P w H x.2.1 x.1
theorem keyAt_of (hs : Sub F H) {d : D} {b : Addr} {k : NestedKey} (r : Rep F io d (.ref b)) (e : keyOf d = some k) (z : k.depth ≤ 8) : KeyAt P w H b k := fun h ok => ⟨rep_key ok hs r e rfl, z⟩
theorem keysAt_of (hs : Sub F H) : ∀ {ks vs : List D} {xs : List (NestedKey × Addr × V)}, DPairs F io ks vs xs → KeysAt P w H xs
  | _, _, _, .nil => fun _ h => by cases h
  | _, _, _, .cons r e z _ t => fun x h => by
    rcases List.mem_cons.mp h with rfl | h
    · exact keyAt_of hs r e z
    · exact keysAt_of hs t x h
end
abbrev PN : List (NestedKey × Addr × V) → List (NestedKey × Addr × Value) → Prop := Paired fun x y => x.1 = y.1 ∧ x.2.1 = y.2.1 ∧ RelV x.2.2 y.2.2
def atK (xs : List (NestedKey × Addr × V)) (k : NestedKey) : Option V := (xs.find? fun x => decide (x.1 = k)).map (·.2.2)
def stK (xs : List (NestedKey × Addr × V)) (k : NestedKey) (b : Addr) (v : V) : List (NestedKey × Addr × V) := if (atK xs k).isSome then xs.map (fun x => if x.1 = k then (x.1, x.2.1, v) else x) else xs ++ [(k, b, v)]
theorem PN.at {xs : List (NestedKey × Addr × V)} {ys : List (NestedKey × Addr × Value)} (r : PN xs ys) (k : NestedKey) : RelO (atK xs k) ((atKey ys k).map (·.2)) := by
  induction r with
  | nil => exact True.intro
  | @cons p q ps qs h t ih =>
    obtain ⟨h1, _, h2⟩ := h
    by_cases e : p.1 = k
    · have e' : q.1 = k := h1.symm.trans e
      have a : atK (p :: ps) k = some p.2.2 := by simp [atK, List.find?_cons, e]
      have b : atKey (q :: qs) k = some q.2 := by simp [atKey, List.find?_cons, e']
      rw [a, b]; exact h2
    · have e' : ¬ q.1 = k := fun z => e (h1.trans z)
      have a : atK (p :: ps) k = atK ps k := by simp [atK, List.find?_cons, e]
      have b : atKey (q :: qs) k = atKey qs k := by simp [atKey, List.find?_cons, e']
      rw [a, b]; exact ih
theorem PN.keys {xs : List (NestedKey × Addr × V)} {ys : List (NestedKey × Addr × Value)} (r : PN xs ys) : ys.map (·.1) = xs.map (·.1) := by
  induction r with
  | nil => rfl
  | cons h t ih => rw [List.map_cons, List.map_cons, ih, h.1]
theorem PN.put {xs : List (NestedKey × Addr × V)} {ys : List (NestedKey × Addr × Value)} (r : PN xs ys) (k : NestedKey) (b : Addr) {v : V} {u : Value} (rv : RelV v u) : PN (stK xs k b v) (storedH ys k b u) := by
  have e : (atK xs k).isSome = (atKey ys k).isSome := by
    rw [(r.at k).isSome_eq, Option.isSome_map]
  unfold stK storedH
  rw [e]
  by_cases q : (atKey ys k).isSome = true
  · rw [if_pos q, if_pos q]
    clear q e
    induction r with
    | nil => exact .nil
    | @cons p q ps qs h t ih =>
      rw [List.map_cons, List.map_cons]
      refine .cons ?_ ih
      obtain ⟨h1, h2, h3⟩ := h
      unfold putAt
      by_cases e : p.1 = k
      · rw [if_pos e, if_pos (h1.symm.trans e)]; exact ⟨h1, h2, rv⟩
      · rw [if_neg e, if_neg (fun z => e (h1.trans z))]; exact ⟨h1, h2, h3⟩
  · rw [if_neg q, if_neg q]; exact Paired.snoc r ⟨rfl, rfl, rv⟩
theorem stK_length (xs : List (NestedKey × Addr × V)) (k : NestedKey) (b : Addr) (v : V) : (stK xs k b v).length ≤ xs.length + 1 := by
  unfold stK
  split
  · rw [List.length_map]; omega
  · rw [List.length_append]; exact Nat.le_refl _
section
variable {P : Program} {w : World} {mg : Str → Option Value} {H : Hp} {h : Heap} {a : Addr} {xs : List (NestedKey × Addr × V)} {ep : Nat}
theorem PN.all {ys : List (NestedKey × Addr × Value)} (r : PN xs ys) (ok : HOk P w H h) (hk : KeysAt P w H xs) : ∀ y ∈ ys, (nestedKind P w).is h y.1 y.2.1 := by
  induction r with
  | nil => exact fun y hy => by cases hy
  | @cons p q ps qs hq t ih =>
    intro y hy
    rcases List.mem_cons.mp hy with rfl | hy
    · rw [← hq.1, ← hq.2.1]
      exact hk p (List.mem_cons_self ..) h ok
    · exact ih (fun x hx => hk x (List.mem_cons_of_mem _ hx)) y hy
theorem dn_at (ok : HOk P w H h) (e : H a = some (dN (P, w, mg) a xs ep)) (hk : KeysAt P w H xs) : xs.length ≤ sizeLine ∧ (a == sysModules) = false ∧ ∃ ys, PN xs ys ∧ h.DictOfH (nestedKind P w) a ys := by
  obtain ⟨⟨o, es, ys, h1, h2, h3, h4, h5, h6, h7, h8⟩, _, _⟩ := (show ObjOk P w H h a (dN (P, w, mg) a xs ep) from ok a _ e)
  exact ⟨h7, h6, ys, h5, o, es, ep, h1, h2, h3, h4, PN.all h5 ok hk, by rw [PN.keys h5]; exact h8⟩
theorem dn_ok {H' : Hp} {h' : Heap} {ys : List (NestedKey × Addr × Value)} (dd : h'.DictOfH (nestedKind P w) a ys) (r : PN xs ys) (hz : xs.length ≤ sizeLine) (hd : (a == sysModules) = false) : ∃ ep, ObjOk P w H' h' a (dN (P, w, mg) a xs ep) := by
  obtain ⟨o, es, ep, h1, h2, h3, h4, h5, h6⟩ := dd
  exact ⟨ep, ⟨o, es, ys, h1, h2, h3, h4, r, hd, hz, by rw [← r.keys]; exact h6⟩, ⟨o, h1⟩, fun g1 g2 ⟨o, es, ys, k1, k2⟩ st => ⟨o, es, ys, st _ k1, k2⟩⟩
theorem dn_new {H' : Hp} (hb : sysModules < h.objs.size) : ObjOk P w H' (h.push { cls := .type "dict", data := .dict #[] }) h.objs.size (dN (P, w, mg) h.objs.size [] 0) :=
  ⟨⟨_, #[], [], Heap.get?_push_size _ rfl, ⟨rfl, rfl, rfl⟩, rfl, rfl, .nil, beq_eq_false_iff_ne.mpr (Ne.symm (Nat.ne_of_lt hb)), Nat.zero_le _, List.nodup_nil⟩, ⟨_, Heap.get?_push_size _ rfl⟩, fun g1 g2 ⟨o, es, ys, k1, k2⟩ st => ⟨o, es, ys, st _ k1, k2⟩⟩
end

section
variable {X : Cx} {pins : List (Addr × Obj)} {σ : L2.St} {H : Hp} {s : Shared} {a b : Addr} {xs : List (NestedKey × Addr × V)} {ep : Nat} {k : NestedKey} {v d : V} {u r : Value} {A : Around} {E : Value → Shared → Prop}
theorem room_n (hu : A.units + 64 < cLine) : (nestedKind P w).room A.in1 := by
  have : A.in1.units ≤ A.units + 1 := by
    first | exact Nat.le_refl _ | exact Nat.le_add_right _ _ | simp [Around.in1, Around.units]
  show A.in1.units + 8 < cLine
  omega
theorem n_getItem {Q : Value → Shared → Prop} (hu : A.units + 64 < cLine) (I : Inv X pins σ H s) (e : H a = some (dN (pwOf X) a xs ep)) (hk : KeysAt X.prog X.w H xs) (kb : KeyAt X.prog X.w H b k) (hv : atK xs k = some v) (h : ∀ w' s', Inv X pins σ H s' → RelV v w' → Q w' s') :
    wpAny (model X.prog X.w) A (getItem (.ref a) (.ref b)) Q E s := by
  obtain ⟨z, hd, ys, rel, dd⟩ := dn_at I.hok e hk
  obtain ⟨w', hw, rw'⟩ := RelO.some_of (v := v) (o := (atKey ys k).map (·.2)) (by rw [← hv]; exact rel.at k)
  obtain ⟨p, hp, hp2⟩ := Option.map_eq_some_iff.mp hw
  refine wpAny_getItem_heap (room_n hu) (kb _ I.hok) dd hp ?_
  rw [hp2]
  exact h w' _ (I.tok _) rw'
theorem n_in {Q : Value → Shared → Prop} (hu : A.units + 64 < cLine) (I : Inv X pins σ H s) (e : H a = some (dN (pwOf X) a xs ep)) (hk : KeysAt X.prog X.w H xs) (kb : KeyAt X.prog X.w H b k) (h : ∀ s', Inv X pins σ H s' → Q (.bool (atK xs k).isSome) s') :
    wpAny (model X.prog X.w) A (compareOp .In (.ref b) (.ref a)) Q E s := by
  obtain ⟨z, hd, ys, rel, dd⟩ := dn_at I.hok e hk
  refine wpAny_in_heap (room_n hu) (kb _ I.hok) hd dd ?_
  have q := (rel.at k).isSome_eq
  rw [Option.isSome_map] at q
  rw [← q]
  exact h _ (I.tok _)
theorem n_notIn {Q : Value → Shared → Prop} (hu : A.units + 64 < cLine) (I : Inv X pins σ H s) (e : H a = some (dN (pwOf X) a xs ep)) (hk : KeysAt X.prog X.w H xs) (kb : KeyAt X.prog X.w H b k) (h : ∀ s', Inv X pins σ H s' → Q (.bool (!(atK xs k).isSome)) s') :
    wpAny (model X.prog X.w) A (compareOp .NotIn (.ref b) (.ref a)) Q E s := by
  obtain ⟨z, hd, ys, rel, dd⟩ := dn_at I.hok e hk
  refine wpAny_notIn_heap (room_n hu) (kb _ I.hok) hd dd ?_
  have q := (rel.at k).isSome_eq
  rw [Option.isSome_map] at q
  rw [← q]
  exact h _ (I.tok _)
theorem n_setItem {Q : Unit → Shared → Prop} (hu : A.units + 64 < cLine) (I : Inv X pins σ H s) (e : H a = some (dN (pwOf X) a xs ep)) (hk : KeysAt X.prog X.w H xs) (kb : KeyAt X.prog X.w H b k) (hl : xs.length < sizeLine) (rv : RelV v r)
    (h : ∀ s' ep', Inv X pins σ (upd H a (dN (pwOf X) a (stK xs k b v) ep')) s' → Q () s') : wpAny (model X.prog X.w) A (setItem (.ref a) (.ref b) r) Q E s := by
  obtain ⟨z, hd, ys, rel, dd⟩ := dn_at I.hok e hk
  have hz : ys.length ≤ sizeLine := by rw [← Paired.length rel]; exact z
  have hl' : (stK xs k b v).length ≤ sizeLine := by have := stK_length xs k b v; omega
  refine wpAny_setItem_heap (hsz := hz) (room_n hu) (kb _ I.hok) dd fun h' dd' hs => ?_
  obtain ⟨ep', ok⟩ := dn_ok (mg := X.mg) (H' := upd H a (dN (pwOf X) a (stK xs k b v) 0)) dd' (rel.put k b rv) hl' hd
  have he : ∃ q, h'.get? a = some q := let ⟨q, _, _, hq, _⟩ := dd'; ⟨q, hq⟩
  exact h _ ep' (d_write I (by rw [e]; exact True.intro) hs he ok)
theorem n_get2 {Q : Value → Shared → Prop} (hu : A.units + 64 < cLine) (I : Inv X pins σ H s) (e : H a = some (dN (pwOf X) a xs ep)) (hk : KeysAt X.prog X.w H xs) (kb : KeyAt X.prog X.w H b k) (rd : RelV d r) (h : ∀ w' s', Inv X pins σ H s' → RelV ((atK xs k).getD d) w' → Q w' s') :
    wpAny (model X.prog X.w) A (call (.builtin "dict.get") [.ref a, .ref b, r]) Q E s := by
  obtain ⟨z, hd, ys, rel, dd⟩ := dn_at I.hok e hk
  exact call_meetsIn PySem.F.slot_dict_get dd.typeIs PySem.F.entry_dict_get (PySem.F.args_dict_get_3 _ _ _) (meetsH_dict_get_default (nestedKind X.prog X.w) a b hd r) ⟨room_n hu, k, ys, kb _ I.hok, dd, h _ _ (I.tok _) ((rel.at k).getD rd)⟩
theorem n_typeIs (I : Inv X pins σ H s) (e : H a = some (dN (pwOf X) a xs ep)) : s.TypeIs (.ref a) "dict" ∧ (∀ b, Value.ref a = .ref b → ∃ ob, s.heap.get? b = some ob ∧ ob.dict = none) := by
  obtain ⟨⟨o, es, ys, h1, h2, _⟩, _, _⟩ := (show ObjOk X.prog X.w H s.heap a (dN (X.prog, X.w, X.mg) a xs ep) from I.hok a _ e)
  refine ⟨⟨o, h1, h2.1⟩, fun b q => ?_⟩
  cases q
  exact ⟨o, h1, h2.2.1⟩
end
end Dl
set_option autoImplicit true
/-! The data layer: dicts whose keys are tuples, the rules. -/
namespace Dl
open PySem PySem.Spec PyProof.Rows L2 TL
/-! ### what a dict holds -/
def keyT (d : D) : Option NestedKey := match d with
  | .tup l => match keyOf (.tup l) with
    | some k => if k.depth ≤ 8 then some k else none
    | none => none
  | _ => none
def dAt : List D → List D → NestedKey → Option D
  | k :: ks, v :: vs, kk => if keyOf k = some kk then some v else dAt ks vs kk
  | _, _, _ => none
def dRep : List D → List D → NestedKey → D → List D
  | k :: ks, v :: vs, kk, d => (if keyOf k = some kk then d else v) :: dRep ks vs kk d
  | _, _, _, _ => []
def dPut (ks vs : List D) (kd : D) (kk : NestedKey) (d : D) : List D × List D := if (dAt ks vs kk).isSome then (ks, dRep ks vs kk d) else (ks ++ [kd], vs ++ [d])
theorem keyT_of {d : D} {k : NestedKey} (h : keyT d = some k) : ∃ l, d = .tup l ∧ keyOf d = some k ∧ k.depth ≤ 8 := by
  cases d with
  | tup l =>
    unfold keyT at h
    dsimp only at h
    cases e : keyOf (.tup l) with
    | none => rw [e] at h; cases h
    | some kk =>
      rw [e] at h
      dsimp only at h
      by_cases z : kk.depth ≤ 8
      · rw [if_pos z] at h
        cases h
        exact ⟨l, rfl, rfl, z⟩
      · rw [if_neg z] at h
        cases h
  | _ => cases h
section
variable {F : Hp} {io : List Addr} {kk : NestedKey}
theorem DPairs.lengths : ∀ {ks vs : List D} {xs : List (NestedKey × Addr × V)}, DPairs F io ks vs xs → ks.length = xs.length ∧ vs.length = xs.length
  | _, _, _, .nil => ⟨rfl, rfl⟩
  | _, _, _, .cons _ _ _ _ t => ⟨congrArg (· + 1) (DPairs.lengths t).1, congrArg (· + 1) (DPairs.lengths t).2⟩
theorem atK_pos {k : NestedKey} {b : Addr} {u : V} {xs : List (NestedKey × Addr × V)} (e : k = kk) : atK ((k, b, u) :: xs) kk = some u := by simp [atK, List.find?_cons, e]
theorem atK_neg {k : NestedKey} {b : Addr} {u : V} {xs : List (NestedKey × Addr × V)} (e : ¬ k = kk) : atK ((k, b, u) :: xs) kk = atK xs kk := by simp [atK, List.find?_cons, e]
theorem DPairs.at : ∀ {ks vs : List D} {xs : List (NestedKey × Addr × V)}, DPairs F io ks vs xs → (∀ d, dAt ks vs kk = some d → ∃ v, atK xs kk = some v ∧ Rep F io d v) ∧ (dAt ks vs kk = none → atK xs kk = none)
  | _, _, _, .nil => ⟨fun d h => (by cases h), fun _ => rfl⟩
  | _, _, _, .cons (k := k) (v := v) (u := u) (kk := k1) r e z q t => by
    obtain ⟨h1, h2⟩ := DPairs.at t
    unfold dAt
    by_cases c : k1 = kk
    · have c' : keyOf k = some kk := by rw [e, c]
      rw [if_pos c', atK_pos c]
      exact ⟨fun d h => (by cases h; exact ⟨u, rfl, q⟩), fun h => (by cases h)⟩
    · have c' : ¬ keyOf k = some kk := fun z => c (by rw [e] at z; exact Option.some.inj z)
      rw [if_neg c', atK_neg c]
      exact ⟨h1, h2⟩
theorem DPairs.isSome {ks vs : List D} {xs : List (NestedKey × Addr × V)} (h : DPairs F io ks vs xs) : (atK xs kk).isSome = (dAt ks vs kk).isSome := by
  cases e : dAt ks vs kk with
  | none => rw [h.at.2 e]; rfl
  | some d =>
    obtain ⟨v, e', _⟩ := h.at.1 d e
    rw [e']
    rfl
theorem DPairs.snoc {kd d : D} {b : Addr} {v : V} (r : Rep F io kd (.ref b)) (e : keyOf kd = some kk) (z : kk.depth ≤ 8) (q : Rep F io d v) : ∀ {ks vs : List D} {xs : List (NestedKey × Addr × V)}, DPairs F io ks vs xs → DPairs F io (ks ++ [kd]) (vs ++ [d]) (xs ++ [(kk, b, v)])
  | _, _, _, .nil => .cons r e z q .nil
  | _, _, _, .cons r1 e1 z1 q1 t => .cons r1 e1 z1 q1 (DPairs.snoc r e z q t)
theorem DPairs.rep {d : D} {v : V} (q : Rep F io d v) : ∀ {ks vs : List D} {xs : List (NestedKey × Addr × V)}, DPairs F io ks vs xs → DPairs F io ks (dRep ks vs kk d) (xs.map fun x => if x.1 = kk then (x.1, x.2.1, v) else x)
  | _, _, _, .nil => .nil
  | _, _, _, .cons (k := k) (kk := k1) r1 e1 z1 q1 t => by
    unfold dRep
    rw [List.map_cons]
    by_cases c : k1 = kk
    · have c' : keyOf k = some kk := by rw [e1, c]
      rw [if_pos c', if_pos c]
      exact .cons r1 e1 z1 q (DPairs.rep q t)
    · have c' : ¬ keyOf k = some kk := fun z => c (by rw [e1] at z; exact Option.some.inj z)
      rw [if_neg c', if_neg c]
      exact .cons r1 e1 z1 q1 (DPairs.rep q t)
theorem DPairs.put {kd d : D} {b : Addr} {v : V} {ks vs : List D} {xs : List (NestedKey × Addr × V)} (h : DPairs F io ks vs xs) (r : Rep F io kd (.ref b)) (e : keyOf kd = some kk) (z : kk.depth ≤ 8) (q : Rep F io d v) : DPairs F io (dPut ks vs kd kk d).1 (dPut ks vs kd kk d).2 (stK xs kk b v) := by
  unfold dPut stK
  rw [h.isSome]
  by_cases c : (dAt ks vs kk).isSome = true
  · rw [if_pos c, if_pos c]
    exact h.rep q
  · rw [if_neg c, if_neg c]
    exact h.snoc r e z q
end
/-! ### readings and rules -/
def rNIx (pw : PWd) : R2 := fun x y H Q => ∃ a b xs ep k v, x = .ref a ∧ y = .ref b ∧ H a = some (dN pw a xs ep) ∧ KeysAt pw.1 pw.2.1 H xs ∧ KeyAt pw.1 pw.2.1 H b k ∧ atK xs k = some v ∧ Q v H
def rNIn (pw : PWd) (neg : Bool) : R2 := fun y x H Q => ∃ a b xs ep k, x = .ref a ∧ y = .ref b ∧ H a = some (dN pw a xs ep) ∧ KeysAt pw.1 pw.2.1 H xs ∧ KeyAt pw.1 pw.2.1 H b k ∧ Q (.bl (if neg then !(atK xs k).isSome else (atK xs k).isSome)) H
def sNPut (pw : PWd) (td ty tv : TE) : TS := fun D σ H => tv σ H fun v H1 => td σ H1 fun x H2 => ty σ H2 fun y H3 => ∃ a b xs ep k, x = .ref a ∧ y = .ref b ∧ H3 a = some (dN pw a xs ep) ∧ KeysAt pw.1 pw.2.1 H3 xs ∧ KeyAt pw.1 pw.2.1 H3 b k ∧ xs.length < sizeLine ∧ ∀ ep', D.nx σ (upd H3 a (dN pw a (stK xs k b v) ep'))
def tNGet2 (pw : PWd) (td ty tx : TE) : TE := fun σ H Q => td σ H fun x H1 => ∃ a xs ep, x = .ref a ∧ H1 a = some (dN pw a xs ep) ∧ ty σ H1 fun y H2 => tx σ H2 fun z H3 => ∃ b xs ep k, y = .ref b ∧ H3 a = some (dN pw a xs ep) ∧ KeysAt pw.1 pw.2.1 H3 xs ∧ KeyAt pw.1 pw.2.1 H3 b k ∧ Q ((atK xs k).getD z) H3
def tNNew (pw : PWd) : TE := fun _ H Q => ∀ p, H p = none → Q (.ref p) (upd H p (dN pw p [] 0))
section
variable {X : Cx} {o i e f value : Expr} {pos pos' tpos apos cpos : Pos} {td ty tv tx : TE}
theorem pe_nix (hu : X.A.units + 64 < cLine) (ho : PE X o td) (hi : PE X i ty) (hs : NoSl i) : PE X (.Subscript o i pos) (tOp (rNIx (pwOf X)) td ty) := by
  refine ⟨fun pins s σ H Q I h => ?_⟩
  refine subD_of PySem.F.slot_dict_getitem.lookup hs (thn (ho.run pins s σ H _ I h) fun u s1 ⟨x, H1, I1, rx, q1⟩ => thn (hi.run pins s1 σ H1 _ I1 q1) fun iv s2 ⟨y, H2, I2, ry, a, b, xs, ep, k, v, ex, ey, e, hk, kb, hv, q2⟩ => ?_)
  subst ex ey
  obtain rfl : u = Value.ref a := rx
  obtain rfl : iv = Value.ref b := ry
  exact ⟨(n_typeIs I2 e).1, n_getItem hu I2 e hk kb hv fun w' s3 I3 rw' => ⟨v, H2, I3, rw', q2⟩⟩
theorem op_nin (hu : X.A.units + 64 < cLine) : OpR X (compareOp .In) (rNIn (pwOf X) false) := by
  intro pins s σ H y x v u Q I ry rx h
  obtain ⟨a, b, xs, ep, k, ex, ey, e, hk, kb, q⟩ := h
  subst ex ey
  obtain rfl : u = Value.ref a := rx
  obtain rfl : v = Value.ref b := ry
  exact n_in hu I e hk kb fun s3 I3 => ⟨.bl (atK xs k).isSome, H, I3, rfl, q⟩
theorem op_nnin (hu : X.A.units + 64 < cLine) : OpR X (compareOp .NotIn) (rNIn (pwOf X) true) := by
  intro pins s σ H y x v u Q I ry rx h
  obtain ⟨a, b, xs, ep, k, ex, ey, e, hk, kb, q⟩ := h
  subst ex ey
  obtain rfl : u = Value.ref a := rx
  obtain rfl : v = Value.ref b := ry
  exact n_notIn hu I e hk kb fun s3 I3 => ⟨.bl (!(atK xs k).isSome), H, I3, rfl, q⟩
theorem ps_nput (hu : X.A.units + 64 < cLine) (ho : PE X o td) (hi : PE X i ty) (hv : PE X value tv) (hs : swapsWith value (some (.Subscript o i pos')) pos.line X.env = pure false) :
    PS X (.Assign [.Subscript o i pos'] value pos) (sNPut (pwOf X) td ty tv) := by
  refine ⟨fun pins s σ H D I h => ?_⟩
  refine wpAny_Assign_Subscript (thn (hv.run pins s σ H _ I h) fun r s1 ⟨v, H1, I1, rv, q1⟩ => thn (ho.run pins s1 σ H1 _ I1 q1) fun u s2 ⟨x, H2, I2, rx, q2⟩ => thn (hi.run pins s2 σ H2 _ I2 q2) fun iv s3 ⟨y, H3, I3, ry, a, b, xs, ep, k, ex, ey, e, hk, kb, hl, q3⟩ => ?_) hs
  subst ex ey
  obtain rfl : u = Value.ref a := rx
  obtain rfl : iv = Value.ref b := ry
  exact n_setItem hu I3 e hk kb hl rv fun s4 ep' I4 => ⟨σ, _, I4, q3 ep'⟩
theorem pe_nget2 (hu : X.A.units + 64 < cLine) (ho : PE X o td) (he : PE X e ty) (hf : PE X f tx) (m : M2 X o "get" apos e f cpos) : PE X (.Call (.Attribute o "get" apos) [e, f] [] cpos) (tNGet2 (pwOf X) td ty tx) := by
  refine ⟨fun pins s σ H Q I h => ?_⟩
  refine wpAny_Call_method m.base m.few m.line PySem.F.plainAttrs_dict PySem.F.slot_dict_get PySem.F.type_dict_get (thn (ho.run pins s σ H _ I h) fun u s1 ⟨x, H1, I1, rx, a, xs, ep, ex, d, q1⟩ => ?_)
  subst ex
  obtain rfl : u = Value.ref a := rx
  obtain ⟨t1, t2⟩ := n_typeIs I1 d
  refine ⟨t1, t2, ?_⟩
  rw [m.trees]
  refine Calls.callWith_builtin rfl (Calls.evalArgs_plain (Calls.spliced_cons (thn (he.run pins s1 σ H1 _ I1 q1) fun iv s2 ⟨y, H2, I2, ry, q2⟩ =>
    Calls.spliced_cons (thn (hf.run pins s2 σ H2 _ I2 q2) fun fv s3 ⟨z, H3, I3, rz, b, xs, ep, k, ey, e, hk, kb, q3⟩ => Calls.spliced_nil ?_))))
  subst ey
  obtain rfl : iv = Value.ref b := ry
  exact n_get2 hu I3 e hk kb rz fun w' s4 I4 rw' => ⟨_, H3, I4, rw', q3⟩
theorem pe_nnew : PE X (.Dict [] [] pos) (tNNew (pwOf X)) := ⟨fun pins s σ H Q I h =>
  wpAny_Dict_empty ⟨.ref s.heap.objs.size, _, I.laid (a := s.heap.objs.size) (o := dN (pwOf X) s.heap.objs.size [] 0) (t' := s.toks) (fun _ _ q => Heap.get?_push_of_some _ q) (Nat.le_refl _) (dn_new I.big), rfl, h _ (I.hok.fresh (Nat.le_refl _))⟩⟩
end
/-! ### the same over values as trees -/
def opIxN (a b : D) (m : Sto) : R D := match a with
  | .own ks vs => (match keyT b with
    | some k => ofO (dAt ks vs k) m
    | none => .bad)
  | _ => .bad
def opInN (b a : D) (m : Sto) : R D := match a with
  | .own ks vs => (match keyT b with
    | some k => .ok (.bl (dAt ks vs k).isSome) m
    | none => .bad)
  | _ => .bad
def opNinN (b a : D) (m : Sto) : R D := match a with
  | .own ks vs => (match keyT b with
    | some k => .ok (.bl (!(dAt ks vs k).isSome)) m
    | none => .bad)
  | _ => .bad
section
variable {x y : Sx pw} {r : Env} {m : Sto} {s : L2.St} {H H' : Hp} {w : Wi} {E : Ends} {X : Cx} {e a b c f : Expr} {pos : Pos} {fa fb fe ff : SE}
/-- a key that is looked at stands -/
theorem Pk.key {d : D} {v : V} {k : NestedKey} (h : Pk x H d v) (R : Rel x r m s H) (e : keyT d = some k) : ∃ b, v = .ref b ∧ Rep x.F x.io d (.ref b) ∧ KeyAt pw.1 pw.2.1 H b k ∧ keyOf d = some k ∧ k.depth ≤ 8 := by
  obtain ⟨l, rfl, e1, z⟩ := keyT_of e
  obtain ⟨a, vs, rfl, hF, _, q⟩ := h.tup R
  exact ⟨a, rfl, .tup hF q, keyAt_of R.sub (.tup hF q) e1 z, e1, z⟩
theorem od_ixN : OpD pw w opIxN (rNIx pw) := by
  intro x e m s H Q da db va vb R pa pb h
  cases da with
  | own ks vs =>
    unfold opIxN at h
    dsimp only at h
    cases hk : keyT db with
    | none => rw [hk] at h; exact h.elim
    | some k =>
      rw [hk] at h
      dsimp only at h
      obtain ⟨a, ep, xs, rfl, ha, e, dp⟩ := pa.own
      obtain ⟨b, rfl, rb, kb, _, _⟩ := pb.key R hk
      cases hv : dAt ks vs k with
      | none => rw [hv] at h; exact h.elim
      | some d =>
        rw [hv] at h
        obtain ⟨v, e', rv⟩ := dp.at.1 d hv
        exact ⟨a, b, xs, ep, k, v, rfl, rfl, e, keysAt_of R.sub dp, kb, e', Fin.here R h rv⟩
  | _ => exact h.elim
theorem od_inN : OpD pw w opInN (rNIn pw false) := by
  intro x e m s H Q db da vb va R pb pa h
  cases da with
  | own ks vs =>
    unfold opInN at h
    dsimp only at h
    cases hk : keyT db with
    | none => rw [hk] at h; exact h.elim
    | some k =>
      rw [hk] at h
      obtain ⟨a, ep, xs, rfl, ha, e, dp⟩ := pa.own
      obtain ⟨b, rfl, rb, kb, _, _⟩ := pb.key R hk
      refine ⟨a, b, xs, ep, k, rfl, rfl, e, keysAt_of R.sub dp, kb, ?_⟩
      rw [if_neg Bool.false_ne_true, dp.isSome]
      exact Fin.here R h (.bl _)
  | _ => exact h.elim
theorem od_ninN : OpD pw w opNinN (rNIn pw true) := by
  intro x e m s H Q db da vb va R pb pa h
  cases da with
  | own ks vs =>
    unfold opNinN at h
    dsimp only at h
    cases hk : keyT db with
    | none => rw [hk] at h; exact h.elim
    | some k =>
      rw [hk] at h
      obtain ⟨a, ep, xs, rfl, ha, e, dp⟩ := pa.own
      obtain ⟨b, rfl, rb, kb, _, _⟩ := pb.key R hk
      refine ⟨a, b, xs, ep, k, rfl, rfl, e, keysAt_of R.sub dp, kb, ?_⟩
      rw [if_pos rfl, dp.isSome]
      exact Fin.here R h (.bl _)
  | _ => exact h.elim
theorem de_ixN (hu : X.A.units + 64 < cLine) (ha : DK X w a fa) (hb : DK X w b fb) (hs : NoSl b := by exact fun _ _ => rfl) : DE X w (.Subscript a b pos) (sBin opIxN fa fb) := PE.imp (pe_nix hu ha hb hs) fun s H Q q => rd_bin od_ixN s H Q q
theorem de_inN (hu : X.A.units + 64 < cLine) (ha : DK X w a fa) (hb : DK X w b fb) (hm : behindInMarks .In b = false := by rfl) : DE X w (.Compare a [.In] [b] pos) (sBin opInN fa fb) := de_cmp (op_nin hu) od_inN ha hb hm
theorem de_ninN (hu : X.A.units + 64 < cLine) (ha : DK X w a fa) (hb : DK X w b fb) (hm : behindInMarks .NotIn b = false := by rfl) : DE X w (.Compare a [.NotIn] [b] pos) (sBin opNinN fa fb) := de_cmp (op_nnin hu) od_ninN ha hb hm
theorem dt_inN (hu : X.A.units + 64 < cLine) (ha : DK X w a fa) (hb : DK X w b fb) (hm : behindInMarks .In b = false := by rfl) : DT X w (.Compare a [.In] [b] pos) (sB (sBin opInN fa fb)) := dt_cmp (op_nin hu) od_inN ha hb hm
theorem dt_ninN (hu : X.A.units + 64 < cLine) (ha : DK X w a fa) (hb : DK X w b fb) (hm : behindInMarks .NotIn b = false := by rfl) : DT X w (.Compare a [.NotIn] [b] pos) (sB (sBin opNinN fa fb)) := dt_cmp (op_nnin hu) od_ninN ha hb hm
/-- d.get(k, x), d a slot's own -/
def sGet2 (i : Nat) (f g : SE) : SE := fun r m => match r[i]? with
  | some (some (.dct ks vs)) => bindR (f r m) fun kd m => bindR (g r m) fun d m => (match keyT kd with
    | some k => .ok ((dAt ks vs k).getD d) m
    | none => .bad)
  | _ => .bad
/-- a slot's own dict -/
theorem Rel.dctAt {ks vs : List D} (R : Rel x r m s H) {i : Nat} (h : r[i]? = some (some (.dct ks vs))) : ∃ a ep xs, s[i]? = some (some (.ref a)) ∧ a ∈ x.A1 ∧ H a = some (dN pw a xs ep) ∧ DPairs x.F x.io ks vs xs := by
  obtain ⟨a, ep, xs, h1, h2, h3, h4, _⟩ := R.ownD h
  exact ⟨a, ep, xs, h1, h2, h3, h4⟩
theorem de_get2 {i : Nat} {o : Expr} {apos : Pos} (hu : X.A.units + 64 < cLine) (ho : PE X o (tVar i)) (he : DE X w e fe) (hf : DE X w f ff) (hm : M2 X o "get" apos e f pos) : DE X w (.Call (.Attribute o "get" apos) [e, f] [] pos) (sGet2 i fe ff) :=
  PE.imp (pe_nget2 hu ho he hf hm) fun s H Q ⟨x, r, m, R, q⟩ => by
    unfold sGet2 at q
    split at q
    · rename_i ks vs hd
      obtain ⟨a, ep, xs, h1, h2, h3, h4⟩ := R.dctAt hd
      refine ⟨.ref a, h1, a, xs, ep, rfl, h3, ?_⟩
      refine rd_bind R q fun kd m1 kv y H1 R1 p1 st1 q1 => ?_
      refine rd_bind R1 q1 fun d m2 dv z H2 R2 p2 st2 q2 => ?_
      cases hk : keyT kd with
      | none => rw [hk] at q2; exact q2.elim
      | some k =>
        rw [hk] at q2
        dsimp only at q2
        obtain ⟨a', ep', xs', g1, g2, g3, g4⟩ := R2.dctAt hd
        have ea : a' = a := by
          rw [h1] at g1
          cases g1
          rfl
        subst ea
        obtain ⟨b, rfl, rb, kb, _, _⟩ := (Pk.of (H := H2) (p1.mono st2.st.F st2.st.io)).key R2 hk
        refine ⟨b, xs', ep', k, rfl, g3, keysAt_of R2.sub g4, kb, ?_⟩
        cases hv : dAt ks vs k with
        | none =>
          rw [hv] at q2
          rw [g4.at.2 hv]
          exact Fin.here R2 q2 p2
        | some d' =>
          rw [hv] at q2
          obtain ⟨v, e', rv⟩ := g4.at.1 d' hv
          rw [e']
          exact Fin.here R2 q2 rv
    · exact q.elim
/-- d[k] = e, d a slot's own -/
def sPutD (i : Nat) (k f : SE) : SS := fun r m => match r[i]? with
  | some (some (.dct ks vs)) => bindS r (f r m) fun d m => bindS r (k r m) fun kd m => (match keyT kd with
    | some kk => if ks.length < LIM then .nx (r.set i (some (.dct (dPut ks vs kd kk d).1 (dPut ks vs kd kk d).2))) m else .bad
    | none => .bad)
  | _ => .bad
theorem ds_putD {i : Nat} {o : Expr} {pos' : Pos} (hu : X.A.units + 64 < cLine) (ho : PE X o (tVar i)) (hk : DE X w b fb) (he : DE X w e fe) (hs : swapsWith e (some (.Subscript o b pos')) pos.line X.env = pure false := by rfl) :
    DS X w (.Assign [.Subscript o b pos'] e pos) (sPutD i fb fe) := PS.imp (ps_nput hu ho hk he hs) fun E s H ⟨x, r, m, R, q⟩ => by
  unfold sPutD at q
  split at q
  · rename_i ks vs hd
    refine rd_bindS R q fun d m1 v y H1 R1 p1 st1 q1 => ?_
    obtain ⟨a, ep, xs, h1, h2, h3, h4⟩ := R1.dctAt hd
    refine ⟨.ref a, h1, ?_⟩
    refine rd_bindS R1 q1 fun kd m2 kv z H2 R2 p2 st2 q2 => ?_
    cases hk : keyT kd with
    | none => rw [hk] at q2; exact q2.elim
    | some k =>
      rw [hk] at q2
      obtain ⟨hz, q2⟩ := FinS.ite q2
      obtain ⟨a', ep', xs', g1, g2, g3, g4, up⟩ := R2.ownD hd
      have ea : a' = a := by
        rw [h1] at g1
        cases g1
        rfl
      subst ea
      obtain ⟨b, rfl, rb, kb, e1, z1⟩ := (Pk.of (H := H2) p2).key R2 hk
      refine ⟨a', b, xs', ep', k, rfl, rfl, g3, keysAt_of R2.sub g4, kb, by rw [← g4.lengths.1, ← lim_eq]; exact hz, fun ep2 => ?_⟩
      obtain ⟨u, R3, st3⟩ := up _ _ _ ep2 (g4.put rb e1 z1 (p1.mono st2.st.F st2.st.io))
      exact q2 s u _ R3 st3
  · exact q.elim
/-- {} -/
def cDct : SCe := fun _ m => .ok (.dct [] []) m
theorem dc_dct : DC X w (.Dict [] [] pos) cDct := PE.imp pe_nnew fun s H Q ⟨x, r, m, R, q⟩ => fun a ha => by
  have haF : x.F a = none := by
    cases e : x.F a with
    | none => rfl
    | some o => rw [R.sub _ _ e] at ha; cases ha
  have R2 : Rel x r m s (upd H a (dN (pwOf X) a [] 0)) := ⟨fun b o e => by rw [upd_ne (ne_of_none (R.sub _ _ e) ha)]; exact R.sub _ _ e, R.vars.mono (.refl _) (.refl _) fun b _ o e => by rw [upd_ne (ne_of_none e ha)]; exact e,
    R.sto.mono (.refl _) (.refl _) fun b _ o e => by rw [upd_ne (ne_of_none e ha)]; exact e, R.nd, R.nF⟩
  refine q (.ref a) x _ [a] R2 (.dct upd_same .nil) (fun b hb => ?_) ⟨⟨.refl _, .refl _, fun b o e _ => by rw [upd_ne (ne_of_none e ha)]; exact e, fun b e => ?_, fun b h1 h2 => absurd h1 h2, fun b h => .inl h⟩, rfl⟩
  · have e := List.mem_singleton.mp hb
    subst e
    exact ⟨haF, fun z => R.there b z ha, ha⟩
  · by_cases hb : b = a
    · subst hb
      exact ha
    · rw [upd_ne hb] at e
      exact e
end
end Dl
set_option autoImplicit true
/-! The data layer: dicts whose keys are tuples, walked. -/
namespace Dl
open PySem PySem.Spec PyProof.Rows L2 TL
section
variable {P : Program} {w : World} {H : Hp} {h : Heap} {a : Addr} {xs : List (NestedKey × Addr × V)} {ep : Nat} {pw : PWd}
theorem dn_raw (ok : HOk P w H h) (e : H a = some (dN pw a xs ep)) : (a == sysModules) = false ∧ xs.length ≤ sizeLine ∧ ∃ es, h.DictRaw a es ep ∧ es.size = xs.length ∧ ∀ i (hi : i < es.size), ∃ k b v, xs[i]? = some (k, b, v) ∧ es[i].key = .ref b ∧ RelV v es[i].val := by
  obtain ⟨⟨o, es, ys, h1, h2, h3, h4, h5, h6, h7, h8⟩, _, _⟩ := (show ObjOk P w H h a (dN pw a xs ep) from ok a _ e)
  have hl : xs.length = ys.length := Paired.length h5
  have hs : es.size = ys.length := size_of_entries h4
  refine ⟨h6, h7, es, ⟨o, h1, h2, h3⟩, hs.trans hl.symm, fun i hi => ?_⟩
  have hy : i < ys.length := hs ▸ hi
  have e' := entry_at h4 i
  rw [Array.getElem?_eq_getElem hi, List.getElem?_eq_getElem hy, Option.map_some] at e'
  have e' := Option.some.inj e'
  have pg : ∀ {l : List (NestedKey × Addr × V)} {m : List (NestedKey × Addr × Value)} {j : Nat} {y : NestedKey × Addr × Value}, PN l m → m[j]? = some y → ∃ x, l[j]? = some x ∧ x.1 = y.1 ∧ x.2.1 = y.2.1 ∧ RelV x.2.2 y.2.2 := by
    intro l m j y r
    induction r generalizing j with
    | nil => intro z; simp at z
    | @cons p q ps qs hq t ih =>
      intro z
      cases j with
      | zero =>
        have z := Option.some.inj (show some q = some y from z)
        subst z
        exact ⟨p, rfl, hq⟩
      | succ j =>
        obtain ⟨x, z1, z2⟩ := ih (j := j) (by simpa using z)
        exact ⟨x, by simpa using z1, z2⟩
  obtain ⟨⟨k, b, v⟩, x1, x2, x3, x4⟩ := pg h5 (List.getElem?_eq_getElem hy)
  refine ⟨k, b, v, x1, ?_, ?_⟩
  · rw [e']
    show Value.ref _ = Value.ref b
    rw [← x3]
  · rw [e']
    exact x4
end
/-- the pairs of a dict, each a new tuple -/
def ItN (pw : PWd) (a : Addr) (xs : List (NestedKey × Addr × V)) (ep : Nat) : It :=
  ⟨fun i H => H a = some (dN pw a xs ep) ∧ i < xs.length, fun i H x H' => ∃ T k b v, xs[i]? = some (k, b, v) ∧ x = .ref T ∧ H T = none ∧ H' = upd H T (.tup [.ref b, v]), fun i H => H a = some (dN pw a xs ep) ∧ xs.length ≤ i⟩
theorem turn_n {P : Program} {w : World} {K : PySem.W.Frag} {elts : List Expr} {kk : Nat} {tpos : Pos} {pw : PWd} {a : Addr} {xs : List (NestedKey × Addr × V)} {ep : Nat} (it : Addr) :
    Turn P w K (.Tuple elts kk tpos) (ItN pw a xs ep) [it] it (fun i h => ∃ ok ov, IsItemIter h it a i xs.length ep ok ov) where
  mem := by simp
  obj := fun i h st b hb => by
    have e : b = it := by simpa using hb
    subst e
    obtain ⟨ok, ov, e⟩ := st
    exact ⟨_, e, fun v z => nomatch z⟩
  keep := fun i h h' st k => let ⟨ok, ov, e⟩ := st; ⟨ok, ov, k it (by simp) _ e⟩
  item := by
    intro X hP hw hK hc i pins s σ H E I hf st hg
    subst hP hw hK
    obtain ⟨hd, hi⟩ := hg
    obtain ⟨hs, hz, es, hr, hl, hx⟩ := dn_raw I.hok hd
    obtain ⟨k, b, v, hkv, ek, ru⟩ := hx i (by omega)
    obtain ⟨ok, ov, he⟩ := st
    rw [← hl] at he
    have hlt : it < s.heap.objs.size := Heap.lt_size he
    refine wpAny_pyNext_items_item_raw he hr (by omega) fun h' ho hT hz hk => ?_
    refine ⟨_, rfl, wpAny_letOwnedTupleGo_items (s := { s with heap := h' }) ho fun h'' he' sb => ?_⟩
    have hT2 : h''.get? s.heap.objs.size = some { cls := .type "tuple", data := .seq #[es[i].key, es[i].val] } := (sb.2 _ (Nat.ne_of_gt hlt)).trans hT
    have new : ObjOk X.prog X.w (upd H s.heap.objs.size (.tup [.ref b, v])) h'' s.heap.objs.size (.tup [.ref b, v]) :=
      ⟨by show 2 ≤ sizeLine; decide, [es[i].key, es[i].val], .cons ek (.cons ru .nil), ⟨_, hT2, rfl, _, rfl⟩⟩
    have I1 : Inv X pins σ (upd H s.heap.objs.size (.tup [.ref b, v])) { s with heap := h'' } :=
      I.turnedNew (t' := s.toks) (ch := [it]) (fun b ob hb e => (sb.2 b (by simpa using hb)).trans (hk b ob (by simpa using hb) e)) hf (Nat.le_refl _) new
    refine ⟨.ref s.heap.objs.size, _, I1, rfl, ⟨_, k, b, v, hkv, rfl, I.hok.fresh (Nat.le_refl _), rfl⟩, ⟨es[i].key, es[i].val, ?_⟩, fun b hb => ?_⟩
    · rw [← hl]; exact he'
    · have e : b = it := by simpa using hb
      rw [e, upd_ne (Nat.ne_of_lt hlt)]
      exact (hf it (by simp)).1
  done := by
    intro X hP hw hK hc i pins s σ H E I hf st hg
    subst hP hw hK
    obtain ⟨hd, hi⟩ := hg
    obtain ⟨f0, f1, f2, f3, f4, f5⟩ := hf it (by simp)
    obtain ⟨hs, hz, es, hr, hl, hx⟩ := dn_raw I.hok hd
    obtain ⟨ok, ov, he⟩ := st
    rw [← hl] at he
    exact wpAny_pyNext_items_end_raw (I.ok.hd hc) he hr (by omega) fun h' eb => ⟨rfl, I.turned (t' := s.toks) (fun b ob hb e => eb b ob hb e) f0 f1 f3 f4 f5⟩
  self := fun A i s Q E st h => let ⟨_, _, e⟩ := st; PySem.W.kcp_self e h
def iNItems (td : TE) : TI := fun σ H R => td σ H fun x H1 => ∃ pw a xs ep, x = .ref a ∧ H1 a = some (dN pw a xs ep) ∧ R (ItN pw a xs ep) H1
theorem preSum_getD (is : List Int) : preSum (fun i => is.getD i 0) is.length = is.sum := by
  have h : ∀ n, n ≤ is.length → preSum (fun i => is.getD i 0) n = (is.take n).sum := by
    intro n
    induction n with
    | zero => intro _; rfl
    | succ n ih =>
      intro hn
      have hn' : n < is.length := hn
      show preSum (fun i => is.getD i 0) n + is.getD n 0 = _
      rw [ih (Nat.le_of_lt hn'), List.take_add_one, List.sum_append, List.getElem?_eq_getElem hn', List.getD_eq_getElem?_getD, List.getElem?_eq_getElem hn']
      simp
  rw [h _ (Nat.le_refl _), List.take_length]
/-- sum(d.values()), d's values ints -/
def tNSum (td : TE) : TE := fun σ H Q => td σ H fun x H1 => ∃ (pw : PWd) (a : Addr) (xs : List (NestedKey × Addr × V)) (ep : Nat) (is : List Int), x = V.ref a ∧ H1 a = some (dN pw a xs ep) ∧ xs.map (·.2.2) = is.map V.int ∧ Q (.int is.sum) H1
section
variable {X : Cx} {tg e o : Expr} {td : TE} {apos cpos mpos p pos : Pos}
theorem pi_nitems {elts : List Expr} {kk : Nat} {tpos : Pos} (he : PE X e td) (hbase : attributeBase e "items" X.env (eval e X.env) = eval e X.env := by rfl) (hline : (apos.endLine == cpos.line) = true := by rfl) :
    PI X (.Tuple elts kk tpos) (.Call (.Attribute e "items" apos) [] [] cpos) (iNItems td) := by
  refine ⟨fun pins s σ H R I h => ?_⟩
  refine wpAny_Call_method (T := "dict") (id := "dict.items") hbase rfl hline F.plainAttrs_dict F.slot_dict_items F.type_dict_items (thn (he.run pins s σ H _ I h) fun u s1 ⟨x, H1, I1, rx, pw, d, xs, ep, ex, hd, q⟩ => ?_)
  subst ex
  obtain rfl : u = Value.ref d := rx
  obtain ⟨hs, hz, es, hr, hl, hx⟩ := dn_raw I1.hok hd
  refine ⟨hr.typeIs, fun b e => ?_, ?_⟩
  · cases e
    obtain ⟨ob, h1, h2, _⟩ := hr
    exact ⟨ob, h1, h2.2.1⟩
  have I2 : Inv X pins σ H1 { s1 with heap := s1.heap.push { cls := .type "dict_items", data := .fields #[.ref d] } } := I1.kept (t' := s1.toks) fun b ob q => Heap.get?_push_of_some _ q
  have fin : wpAny (model X.prog X.w) X.A (pyIter (.ref s1.heap.objs.size)) (PIE X pins σ (.Tuple elts kk tpos) R) X.xe { s1 with heap := s1.heap.push { cls := .type "dict_items", data := .fields #[.ref d] } } := by
    refine wpAny_pyIter_items_raw (d := d) ⟨_, Heap.get?_push_size _ rfl, rfl, rfl⟩ (hr.at fun o e => Heap.get?_push_of_some _ e) (pi_one (tk := s1.toks) I2 _ (turn_n _) ⟨.none, .none, ?_⟩ q)
    rw [← hl]
    exact Heap.get?_push_size _ rfl
  show wpAny _ _ (callWith cpos (.builtin "dict.items") [.ref d] [] []) _ X.xe s1
  exact method_meetsIn F.slot_dict_items F.entry_dict_items rfl (PySem.evalArgs_none ⟨rfl, hr.typeIs, F.args_dict_items_1 _, _, meets_dict_items_raw d hs, ⟨es, ep, hr⟩, fin⟩)
theorem pe_nsum (hc : X.calm = true) (hg : Gl X "sum") (hm : X.mg "sum" = none) (hd : PE X o td) (hbase : attributeBase o "values" X.env (eval o X.env) = eval o X.env := by rfl) (hline : (apos.endLine == mpos.line) = true := by rfl)
    (hse : starEach [Expr.Call (.Attribute o "values" apos) [] [] mpos] X.env = [(false, eval (Expr.Call (.Attribute o "values" apos) [] [] mpos) X.env)] := by rfl) :
    PE X (.Call (.Name "sum" p) [.Call (.Attribute o "values" apos) [] [] mpos] [] pos) (tNSum td) := by
  refine ⟨fun pins s σ H Q I h => ?_⟩
  refine wpAny_Call_Name_kw (ld_blt I hg hm (u := .builtin "sum") (by first | rfl | decide +kernel) ?_ (by first | decide +kernel | decide) (by first | decide +kernel | decide))
  rw [hse]
  refine PySem.callWith_builtin1 (wpAny_Call_method0_late hbase hline (thn (hd.run pins s σ H _ I h) fun v s1 ⟨x, H1, I1, r1, pw, a, xs, ep, is, ex, ha, hv, q⟩ => ?_))
  subst ex
  obtain rfl : v = Value.ref a := r1
  obtain ⟨hsys, hz, es, hr, hl, hx⟩ := dn_raw I1.hok ha
  have hr' := hr
  obtain ⟨ob, ho, ex, hdat⟩ := hr'
  refine ⟨"dict", "dict.values", F.plainAttrs_dict, F.slot_dict_values, F.type_dict_values, ⟨ob, ho, ex.1⟩, fun b e => ?_, Calls.callWith_builtin rfl (PySem.evalArgs_none ?_)⟩
  · cases e
    exact ⟨ob, ho, ex.2.1⟩
  refine call_meetsIn F.slot_dict_values ⟨ob, ho, ex.1⟩ F.entry_dict_values (F.args_dict_values_1 _) (meets_dict_values_raw a hsys) ⟨⟨es, ep, hr⟩, ?_⟩
  have k1 : ∀ b u, s1.heap.get? b = some u → (s1.heap.push { cls := .type "dict_values", data := .fields #[.ref a] }).get? b = some u := fun b u e => Heap.get?_push_of_some _ e
  have dat1 : (s1.heap.push { cls := .type "dict_values", data := .fields #[.ref a] }).DictRaw a es ep := hr.at fun o e => k1 _ _ e
  have hval : ∀ (i : Nat) (v : Value), (∃ hi : i < es.size, v = es[i].val) → ∃ t, v = Value.int (is.getD i 0) t := fun i v ⟨hi, e⟩ => by
    subst e
    obtain ⟨k, b, u, h1, _, h2⟩ := hx i hi
    have e1 : (xs.map (·.2.2))[i]? = some u := by rw [List.getElem?_map, h1] <;> rfl
    rw [hv, List.getElem?_map] at e1
    obtain ⟨j, hj, e2⟩ := Option.map_eq_some_iff.mp e1
    subst e2
    obtain ⟨t, e3⟩ := h2
    refine ⟨t, ?_⟩
    rw [e3, List.getD_eq_getElem?_getD, hj] <;> rfl
  have hli : es.size = is.length := by
    have e1 := congrArg List.length hv
    rw [List.length_map, List.length_map] at e1
    rw [hl, e1]
  refine call_sum_walkAnyS (wpAny_pyIter_values_raw (v := s1.heap.objs.size) (d := a) ⟨_, Heap.get?_push_size _ rfl, rfl, rfl⟩ dat1 ?_)
  have hlt : a < s1.heap.objs.size := Heap.lt_size ho
  have hsz : (s1.heap.push { cls := .type "dict_values", data := .fields #[.ref a] }).objs.size = s1.heap.objs.size + 1 := Heap.size_push _ _
  refine ⟨_, _, _, _, _, _, _, fun i => is.getD i 0, rfl, (Walks.rawValues (A := X.A.in1) (I.ok.hd hc) (s1.heap.push { cls := .type "dict_values", data := .fields #[.ref a] }).objs.size a (by rw [hsz]; exact Nat.ne_of_lt (Nat.lt_succ_of_lt hlt)) es ep).toS,
    ⟨⟨_, Heap.get?_push_size _ rfl, rfl, rfl⟩, dat1.at fun u e => Heap.get?_push_of_some _ e⟩, fun b hb => ?_, hval, fun s' t' hm' => ?_⟩
  · show b < ((s1.heap.push _).push _).objs.size
    rw [Heap.size_push, Heap.size_push]
    rw [hsz] at hb
    rcases List.mem_cons.mp hb with e | hb
    · rw [e]
      exact Nat.lt_succ_self _
    · have e : b = a := List.mem_singleton.mp hb
      rw [e]
      exact Nat.lt_succ_of_lt (Nat.lt_succ_of_lt hlt)
  · have hk : ∀ b u, s1.heap.get? b = some u → s'.heap.get? b = some u := fun b u e => hm'.heap b u (fun hmem => by
      have e1 : b = (s1.heap.push { cls := .type "dict_values", data := .fields #[.ref a] }).objs.size := List.mem_singleton.mp hmem
      have e2 := Heap.lt_size e
      rw [hsz] at e1
      rw [e1] at e2
      exact absurd e2 (Nat.not_lt.mpr (Nat.le_succ _))) (Heap.get?_push_of_some _ (k1 b u e))
    have es' : preSum (fun i => is.getD i 0) es.size = is.sum := by
      rw [hli]
      exact preSum_getD is
    rw [es', Moved.eq_with hm']
    exact ⟨.int is.sum, H1, I1.kept (t' := s'.toks) hk, ⟨_, rfl⟩, q⟩
end
end Dl
set_option autoImplicit true
/-! The data layer: dicts walked and summed, over values as trees. -/
namespace Dl
open PySem PySem.Spec PyProof.Rows L2 TL
/-- the pairs -/
def zipD : List D → List D → List D
  | k :: ks, v :: vs => .tup [k, v] :: zipD ks vs
  | _, _ => []
def sItems (f : SE) : SL := fun r m => bindR (f r m) fun d m => match d with
  | .dct ks vs => .ok (zipD ks vs) m
  | _ => .bad
def sSumV (f : SE) : SE := fun r m => bindR (f r m) fun d m => match d with
  | .dct _ vs => ofO ((intsOf vs).map fun is => .int is.sum) m
  | _ => .bad
theorem DPairs.zip_length {F : Hp} {io : List Addr} : ∀ {ks vs : List D} {xs : List (NestedKey × Addr × V)}, DPairs F io ks vs xs → (zipD ks vs).length = xs.length
  | _, _, _, .nil => rfl
  | _, _, _, .cons _ _ _ _ t => congrArg (· + 1) (DPairs.zip_length t)
theorem DPairs.zip_get {F : Hp} {io : List Addr} : ∀ {ks vs : List D} {xs : List (NestedKey × Addr × V)} {i : Nat} {k : NestedKey} {b : Addr} {u : V}, DPairs F io ks vs xs → xs[i]? = some (k, b, u) → ∃ kd vd, (zipD ks vs)[i]? = some (.tup [kd, vd]) ∧ Rep F io kd (.ref b) ∧ Rep F io vd u
  | _, _, _, _, _, _, _, .nil, e => by simp at e
  | _, _, _, 0, _, _, _, .cons r _ _ q _, e => by
    simp at e
    obtain ⟨rfl, rfl, rfl⟩ := e
    exact ⟨_, _, rfl, r, q⟩
  | _, _, _, i + 1, _, _, _, .cons _ _ _ _ t, e => by
    obtain ⟨kd, vd, h1, h2⟩ := DPairs.zip_get (i := i) t (by simpa using e)
    exact ⟨kd, vd, by simpa [zipD] using h1, h2⟩
theorem DPairs.vals {F : Hp} {io : List Addr} : ∀ {ks vs : List D} {xs : List (NestedKey × Addr × V)}, DPairs F io ks vs xs → Reps F io vs (xs.map (·.2.2))
  | _, _, _, .nil => .nil
  | _, _, _, .cons _ _ _ q t => .cons q (DPairs.vals t)
section
variable {X : Cx} {w : Wi} {e : Expr} {f : SE} {apos cpos mpos p pos : Pos}
theorem di_items {elts : List Expr} {kk : Nat} {tpos : Pos} (h : DE X w e f) (hbase : attributeBase e "items" X.env (eval e X.env) = eval e X.env := by rfl) (hline : (apos.endLine == cpos.line) = true := by rfl) :
    DI X w (.Tuple elts kk tpos) (.Call (.Attribute e "items" apos) [] [] cpos) (sItems f) := PI.imp (pi_nitems h hbase hline) fun s H R ⟨x, r, m, Rl, q⟩ => by
  refine rd_bind Rl q fun d m1 v y H1 R1 p1 st1 q1 => ?_
  cases d with
  | dct ks vs =>
    cases p1 with
    | @dct pw' a ep ks vs xs hF dp =>
      refine ⟨pw', a, xs, ep, rfl, R1.sub _ _ hF, ?_⟩
      have hl := dp.zip_length
      have sv : Serves y.F y.io (ItN pw' a xs ep) (zipD ks vs) := by
        refine ⟨fun F' H i a b c => ⟨b _ _ (a _ _ hF), by omega⟩, fun F' H a b => ⟨b _ _ (a _ _ hF), by omega⟩, fun F' io' H i d v H' a b c e y => ?_⟩
        obtain ⟨T, k, b', u, h1, rfl, h2, rfl⟩ := y
        obtain ⟨kd, vd, g1, g2, g3⟩ := (dp.mono a b).zip_get h1
        rw [g1] at e
        cases e
        exact .new h2 (.cons g2 (.cons g3 .nil))
      exact Fin.here R1 q1 sv
  | _ => exact q1.elim
theorem de_sumV (hc : X.calm = true) (hg : Gl X "sum") (hm : X.mg "sum" = none) (h : DE X w e f) (hbase : attributeBase e "values" X.env (eval e X.env) = eval e X.env := by rfl) (hline : (apos.endLine == mpos.line) = true := by rfl)
    (hse : starEach [Expr.Call (.Attribute e "values" apos) [] [] mpos] X.env = [(false, eval (Expr.Call (.Attribute e "values" apos) [] [] mpos) X.env)] := by rfl) :
    DE X w (.Call (.Name "sum" p) [.Call (.Attribute e "values" apos) [] [] mpos] [] pos) (sSumV f) := PE.imp (pe_nsum hc hg hm h hbase hline hse) fun s H Q ⟨x, r, m, Rl, q⟩ => by
  refine rd_bind Rl q fun d m1 v y H1 R1 p1 st1 q1 => ?_
  cases d with
  | dct ks vs =>
    cases p1 with
    | @dct pw' a ep ks vs xs hF dp =>
      cases k : intsOf vs with
      | none =>
        dsimp only at q1
        rw [k] at q1
        exact q1.elim
      | some is =>
        dsimp only at q1
        rw [k] at q1
        exact ⟨pw', a, xs, ep, is, rfl, R1.sub _ _ hF, ints_reps dp.vals k, Fin.here R1 q1 (.int _)⟩
  | _ => exact q1.elim
end
end Dl
set_option autoImplicit true
/-! The data layer: how often a thing stands in a list, in a tuple that is written out. -/
namespace L2
open PySem PySem.Spec PyProof.Rows
theorem count_eqU {x : V} : ∀ {xs : List V} {us : List Value}, Vals xs us → xs.all flatV = true → us.countP (eqU x) = xs.countP fun y => eqV y x
  | _, _, .nil, _ => rfl
  | y :: xs, u :: us, .cons r t, f => by
    rw [List.all_cons, Bool.and_eq_true] at f
    rw [List.countP_cons, List.countP_cons, count_eqU t f.2, eqU_of r f.1]
/-- xs.count(y), flat things -/
def rCnt (K : PySem.W.Frag) : V → List V → Hp → VK → Prop := fun x ys H Q => ∃ p xs y, x = .ref p ∧ ys = [y] ∧ SqL K H p xs ∧ flatV y = true ∧ xs.all flatV = true ∧ Q (.int (xs.countP fun z => eqV z y : Nat)) H
theorem mt_cnt {X : Cx} : MtR X "list.count" (rCnt X.K) := by
  intro pins s σ H x ys v us Q I rx rys h
  obtain ⟨p, xs, y, rfl, rfl, hs, fy, fx, q⟩ := h
  cases rx
  obtain ⟨u, rfl, ru⟩ := rys.one
  obtain ⟨its, rv, ⟨⟨cls, dd, data, sl⟩, n, ho, hc, hdn, hd⟩, hlen⟩ := I.list hs
  dsimp only at hc hd
  subst hc hd
  refine call_meets PySem.F.slot_list_count ⟨_, ho, rfl⟩ PySem.F.entry_list_count (PySem.F.args_list_count_2 _ _)
    (SeqAt.list_countAt p its.toArray n dd sl u (eqU y)) ⟨ho, fun z hz => mem_eqAt ru fy rv fx z (by simpa using hz), .int (xs.countP fun z => eqV z y : Nat), H, I.tok _, ⟨s.toks, ?_⟩, q⟩
  rw [← count_eqU rv fx]
/-- (a, ..).count(e) -/
def tTC (ta : TA) (te : TE) : TE := fun σ H Q => ta σ H fun xs H1 => xs.length ≤ sizeLine ∧ te σ H1 fun y H2 => flatV y = true ∧ xs.all flatV = true ∧ Q (.int (xs.countP fun z => eqV z y : Nat)) H2
theorem pe_tupcount {X : Cx} {es : List Expr} {e : Expr} {ta : TA} {te : TE} {kk : Nat} {tpos apos cpos : Pos} (ha : PA X es ta) (he : PE X e te)
    (hbase : attributeBase (.Tuple es kk tpos) "count" X.env (eval (.Tuple es kk tpos) X.env) = eval (.Tuple es kk tpos) X.env := by rfl) (hline : (apos.endLine == cpos.line) = true := by rfl)
    (hs : starEach [e] X.env = [(false, eval e X.env)] := by rfl) (hb : backTo cpos [(false, eval e X.env)] = [(false, eval e X.env)] := by rfl) :
    PE X (.Call (.Attribute (.Tuple es kk tpos) "count" apos) [e] [] cpos) (tTC ta te) := by
  refine ⟨fun pins s σ H Q I h => ?_⟩
  refine wpAny_Call_method1_late hbase hline (by rw [hs]; exact hb) (wpAny_Tuple_spliced (thn (ha.run tpos pins s σ H _ I h) fun us s1 ⟨xs, H1, I1, r, z, q⟩ => ⟨by rw [← r.length]; exact z, ?_⟩))
  have ho : (s1.heap.push { cls := .type "tuple", data := .seq us.toArray }).get? s1.heap.objs.size = some { cls := .type "tuple", data := .seq us.toArray } := Heap.get?_push_size _ rfl
  have I2 : Inv X pins σ H1 { s1 with heap := s1.heap.push { cls := .type "tuple", data := .seq us.toArray } } := I1.kept (t' := s1.toks) fun b u e => Heap.get?_push_of_some _ e
  refine ⟨"tuple", "tuple.count", PySem.F.plainAttrs_tuple, PySem.F.slot_tuple_count, PySem.F.type_tuple_count, ⟨_, ho, rfl⟩, fun b e => ?_, ?_⟩
  · cases e
    exact ⟨_, ho, rfl⟩
  have I3 := I2.pinned (fp := [s1.heap.objs.size]) (fun b hb => by
    have e := List.mem_singleton.mp hb
    subst e
    exact I1.fpOk (Nat.le_refl _) (I1.hok.fresh (Nat.le_refl _))) (fun b hb => by
    have e := List.mem_singleton.mp hb
    subst e
    exact ⟨_, ho, fun v q => nomatch q⟩)
  refine Calls.callWith_builtin rfl (Calls.evalArgs_plain (Calls.spliced_cons (thn (he.run _ _ σ H1 _ I3 q) fun u s2 ⟨y, H2, I4, ry, fy, fx, q2⟩ => Calls.spliced_nil ?_)))
  have ho2 := (I4.pin (s1.heap.objs.size, _) (List.mem_append_right _ (List.mem_append_right _ (mem_pinsAt (List.mem_singleton.mpr rfl) ho)))).1
  refine call_meets PySem.F.slot_tuple_count ⟨_, ho2, rfl⟩ PySem.F.entry_tuple_count (PySem.F.args_tuple_count_2 _ _)
    (SeqAt.tuple_countAt s1.heap.objs.size us.toArray 0 none #[] u (eqU y)) ⟨ho2, fun z hz => mem_eqAt ry fy r fx z (by simpa using hz), .int (xs.countP fun z => eqV z y : Nat), H2, I4.unpinned.tok _, ⟨s2.toks, ?_⟩, q2⟩
  rw [← count_eqU r fx]
end L2
namespace Dl
open PySem PySem.Spec PyProof.Rows L2 TL
def cntD (l : List D) (d : D) : Int := ((l.countP fun y => eqD y d : Nat) : Int)
def fCnt : D → List D → Sto → R D
  | .lst l, [d], m => if flatD d = true ∧ l.all flatD = true then .ok (.int (cntD l d)) m else .bad
  | _, _, _ => .bad
/-- (a, ..).count(e) -/
def sTC (g : SL) (f : SE) : SE := fun r m => bindR (g r m) fun l m => if l.length ≤ LIM then bindR (f r m) fun d m => if flatD d = true ∧ l.all flatD = true then .ok (.int (cntD l d)) m else .bad else .bad
theorem flat_cnt {F : Hp} {io : List Addr} {d : D} {v : V} (r : Rep F io d v) (fd : flatD d = true) : ∀ {l : List D} {vs : List V}, Reps F io l vs → l.all flatD = true → vs.countP (fun z => eqV z v) = l.countP fun y => eqD y d
  | _, _, .nil, _ => rfl
  | d' :: l, v' :: vs, .cons r' t, f => by
    rw [List.all_cons, Bool.and_eq_true] at f
    rw [List.countP_cons, List.countP_cons, flat_cnt r fd t f.2, (flat_rep r' f.1).2 d fd v r]
section
variable {X : Cx} {w : Wi} {a o e : Expr} {es : List Expr} {apos cpos tpos : Pos} {fa fo fe : SE} {g : SL}
theorem cm_cnt (K : PySem.W.Frag) : CmM pw w fCnt (rCnt K) := by
  intro x e m s H Q d v ds vs R pd ps h
  unfold fCnt at h
  split at h
  · rename_i l d'
    obtain ⟨⟨f1, f2⟩, h⟩ := Fin.ite h
    obtain ⟨p, us, rfl, hp, q⟩ := pd.lst R
    obtain ⟨v', rfl, pv⟩ := ps.one
    have rv := pv.flat f1
    refine ⟨p, us, v', rfl, rfl, SqL.of hp, (flat_rep rv f1).1, (flat_reps rv f1 q f2).1, ?_⟩
    rw [flat_cnt rv f1 q f2]
    exact Fin.here R h (.int _)
  · exact h.elim
theorem de_cnt (ho : DK X w o fo) (ha : DK X w a fa) (hs : starEach [a] X.env = [(false, eval a X.env)] := by rfl) (hbase : attributeBase o "count" X.env (eval o X.env) = eval o X.env := by rfl)
    (hfew : ((backTo cpos (starEach [a] X.env)).all (fun x => !x.1) && (backToKw cpos (keywordEach [] X.env)).all (fun x => x.1.isSome)
      && decide ([a].length + ([] : List Keyword).length + (if ([] : List Keyword).isEmpty then 0 else 1) < 30)) = true := by rfl)
    (hline : (apos.endLine == cpos.line) = true := by rfl) (hpl : (backTo cpos (starEach [] X.env)).any (·.1) = false := by rfl) : DE X w (.Call (.Attribute o "count" apos) [a] [] cpos) (sMeth "list" fCnt fo (aCons fa aNil)) :=
  de_bm PySem.F.plainAttrs_list PySem.F.slot_list_count PySem.F.type_list_count mt_cnt (cm_cnt _) ho (dk_cons ha dk_nil hs) (by decide) hbase hfew hline hs hpl
theorem de_tupcnt {kk : Nat} (ha : DA X w es g) (he : DE X w e fe)
    (hbase : attributeBase (.Tuple es kk tpos) "count" X.env (eval (.Tuple es kk tpos) X.env) = eval (.Tuple es kk tpos) X.env := by rfl) (hline : (apos.endLine == cpos.line) = true := by rfl)
    (hs : starEach [e] X.env = [(false, eval e X.env)] := by rfl) (hb : backTo cpos [(false, eval e X.env)] = [(false, eval e X.env)] := by rfl) :
    DE X w (.Call (.Attribute (.Tuple es kk tpos) "count" apos) [e] [] cpos) (sTC g fe) := PE.imp (pe_tupcount ha he hbase hline hs hb) fun s H Q ⟨x, r, m, R, q⟩ => by
  refine rd_bind R q fun l m1 vs y H1 R1 p1 st1 q1 => ?_
  obtain ⟨hz, q1⟩ := Fin.ite q1
  refine ⟨by rw [← Reps.length p1, ← lim_eq]; exact hz, ?_⟩
  refine rd_bind R1 q1 fun d m2 v z H2 R2 p2 st2 q2 => ?_
  obtain ⟨⟨f1, f2⟩, q2⟩ := Fin.ite q2
  have p1' := Reps.mono st2.st.F st2.st.io p1
  refine ⟨(flat_rep p2 f1).1, (flat_reps p2 f1 p1' f2).1, ?_⟩
  rw [flat_cnt p2 f1 p1' f2]
  exact Fin.here R2 q2 (.int _)
end
end Dl
set_option autoImplicit true
/-! The data layer: a dict that a comprehension makes, its keys tuples. -/
namespace Dl
open PySem PySem.Spec PyProof.Rows L2 TL
section
variable {X : Cx}
theorem n_dictSet {pins : List (Addr × Obj)} {σ : L2.St} {H : Hp} {s : Shared} {a b : Addr} {xs : List (NestedKey × Addr × V)} {ep : Nat} {k : NestedKey} {v : V} {r : Value} {A : Around} {E : Value → Shared → Prop} {Q : Unit → Shared → Prop} (hu : A.units + 64 < cLine) (I : Inv X pins σ H s) (e : H a = some (dN (pwOf X) a xs ep)) (hk : KeysAt X.prog X.w H xs) (kb : KeyAt X.prog X.w H b k)
    (hl : xs.length < sizeLine) (rv : RelV v r) (h : ∀ s' ep', Inv X pins σ (upd H a (dN (pwOf X) a (stK xs k b v) ep')) s' → Q () s') : wpAny (model X.prog X.w) A (dictSet a (.ref b) r) Q E s := by
  obtain ⟨z, hd, ys, rel, dd⟩ := dn_at I.hok e hk
  have hl' : (stK xs k b v).length ≤ sizeLine := by have := stK_length xs k b v; omega
  have hr : (nestedKind X.prog X.w).room A := by
    show A.units + 8 < cLine
    omega
  refine wpAny_dictSet_heap (hsz := by rw [← Paired.length rel]; exact z) hr (kb _ I.hok) dd fun h' dd' hs => ?_
  obtain ⟨ep', ok⟩ := dn_ok (mg := X.mg) (H' := upd H a (dN (pwOf X) a (stK xs k b v) 0)) dd' (rel.put k b rv) hl' hd
  obtain ⟨q, _, _, hq, _⟩ := id dd'
  exact h _ ep' (d_write I (by rw [e]; exact True.intro) hs ⟨q, hq⟩ ok)
/-- one turn's wish: the pair is put -/
def tKv (pw : PWd) (D : Addr) (tk tv : TE) (Nx : Hp → Prop) : L2.St → Hp → Prop := fun σ2 H2 => tk σ2 H2 fun y H4 => tv σ2 H4 fun z H5 => ∃ b xs ep k, y = .ref b ∧ H5 D = some (dN pw D xs ep) ∧ KeysAt pw.1 pw.2.1 H5 xs ∧ KeyAt pw.1 pw.2.1 H5 b k ∧ xs.length < sizeLine ∧ ∀ ep', Nx (upd H5 D (dN pw D (stK xs k b z) ep'))
def tDcN (pw : PWd) (wi : TI) (g : TG) (tk tv : TE) (vs : List Nat) : TE := fun σ H Q => wi σ H fun J H1 => ∀ D, H1 D = none → ∃ W : Nat → Nat → Hp → Prop, (∃ m, W 0 m (upd H1 D (dN pw D [] 0))) ∧ ∀ i m H, W i m H →
  (J.stop i H ∧ Q (.ref D) H) ∨ (J.go i H ∧ ∃ Nx : Hp → Prop, (∀ H', Nx H' → ∃ m', m' < m ∧ W (i + 1) m' H') ∧ ∀ x H', J.yld i H x H' → g x (wipe σ vs) H' fun σ2 H2 => wipe σ2 vs = wipe σ vs ∧ tKv pw D tk tv Nx σ2 H2)
theorem dcn_core {pins : List (Addr × Obj)} {s : Shared} {σ : L2.St} {H : Hp} {Q : VK} {kx vx tg iter : Expr} {scope : Scope} {own : List (Str × Nat)} {pos pos' : Pos} {wi : TI} {g : TG} {tk tv : TE} {use : Option (Value → Sem Unit)} {Qf : Value → Shared → Prop} (I : Inv X pins σ H s) (hc : X.calm = true) (hu : X.A.units + 64 < cLine) (hN : X.N.Nodup) (hi : PI X tg iter wi) (ok : BlkOk X.N X.env.scope scope own)
    (hg : ∀ (s : Shared) (H : Hp) (C : Addr) (cl : List (Str × Addr)) (fp : List Addr), PG (X.blk s H scope (compEnvC scope cl C X.env) fp) tg g)
    (hk : ∀ (s : Shared) (H : Hp) (C : Addr) (cl : List (Str × Addr)) (fp : List Addr), PE (X.blk s H scope (compEnvC scope cl C X.env) fp) kx tk)
    (he : ∀ (s : Shared) (H : Hp) (C : Addr) (cl : List (Str × Addr)) (fp : List Addr), PE (X.blk s H scope (compEnvC scope cl C X.env) fp) vx tv) (hs : ∀ x, foldedSetIterable iter X.env x = pure x)
    (h : tDcN (pwOf X) wi g tk tv (own.map (·.2)) σ H Q)
    (hRR : ∀ D C s' m H', Inv X pins σ H' s' → Q (.ref D) H' → s'.heap.Ns C m → FpOk X pins H' C → compPost (model X.prog X.w) X.A X.xe use Qf (.ref D) C (.ok .next) s') :
    wpAny (model X.prog X.w) X.A (comprehension (.DictComp kx vx [⟨tg, iter, [], 0⟩] scope pos) scope X.env pos' newDict false (eval iter X.env) use) Qf X.xe s := by
  have hfree : ∀ y ∈ scope.names, y.2 = .free → ∃ c, X.env.cells.lookup y.1 = some c := fun y hy e => (ok.free y hy e).elim (fun k => I.ok.has _ (.inl k)) (fun k => I.ok.has _ (.inr k))
  refine wpAny_comprehension_free (use := use) rfl hs (closure_ok hfree) ok.kind (fun y hy e => by rw [ok.uniq y hy, e])
    (thn (hi.run pins s σ H _ I h) fun xv s1 hx => thn hx fun itv s2 ⟨it, fp, tn, J, H2, e, I2, T, st2, f2, q⟩ => ?_)
  subst e
  refine wpAny_newObj_type (newEnv_comp ?_)
  obtain ⟨W, ⟨m0, w0⟩, turn⟩ := q s2.heap.objs.size (I2.hok.fresh (Nat.le_refl _))
  generalize hD : s2.heap.objs.size = D at *
  generalize hs3 : ({ s2 with heap := s2.heap.push { cls := .type "dict", data := .dict #[] } } : Shared) = s3
  have h3 : s3.heap = s2.heap.push { cls := .type "dict", data := .dict #[] } := by rw [← hs3]
  have I3 : Inv X pins σ (upd H2 D (dN (pwOf X) D [] 0)) s3 := by
    rw [← hs3, ← hD]
    exact I2.laid (t' := s2.toks) (fun b o e => Heap.get?_push_of_some _ e) (Nat.le_refl _) (dn_new I2.big)
  have st3 : tn 0 s3.heap := T.keep _ _ _ st2 fun b _ o e => by rw [h3]; exact Heap.get?_push_of_some _ e
  have f3 : ∀ b ∈ fp, FpOk X pins (upd H2 D (dN (pwOf X) D [] 0)) b ∧ b < s3.heap.objs.size := fun b hb => by
    obtain ⟨o, e, _⟩ := T.obj _ _ st2 b hb
    have lt := Heap.lt_size e
    refine ⟨⟨?_, (f2 b hb).2⟩, by rw [h3, Heap.size_push]; exact Nat.lt_succ_of_lt lt⟩
    rw [upd_ne (by rw [← hD]; exact Nat.ne_of_lt lt)]
    exact (f2 b hb).1
  have I4 := block_start I3 ok hN f3
  have nfp : ∀ b ∈ fp, upd H2 D (dN (pwOf X) D [] 0) b = none := fun b hb => (f3 b hb).1.1
  have pg := hg s3 (upd H2 D (dN (pwOf X) D [] 0)) s3.heap.objs.size (cellsFrom (s3.heap.objs.size + 1) scope.names (cloFrom X.env.cells scope.names [])) fp
  have pk := hk s3 (upd H2 D (dN (pwOf X) D [] 0)) s3.heap.objs.size (cellsFrom (s3.heap.objs.size + 1) scope.names (cloFrom X.env.cells scope.names [])) fp
  have pe := he s3 (upd H2 D (dN (pwOf X) D [] 0)) s3.heap.objs.size (cellsFrom (s3.heap.objs.size + 1) scope.names (cloFrom X.env.cells scope.names [])) fp
  show codeAny _ _ (.compStart (.DictComp kx vx [⟨tg, iter, [], 0⟩] scope pos) 0 (.ref it) (.ref D) (compEnvC scope (cellsFrom (s3.heap.objs.size + 1) scope.names (cloFrom X.env.cells scope.names [])) s3.heap.objs.size X.env)) (compPost (model X.prog X.w) X.A X.xe use Qf (.ref D) s3.heap.objs.size) { s3 with heap := pushCells (s3.heap.push { cls := .type "dict", data := .dict #[] }) scope.names }
  generalize hce : compEnvC scope (cellsFrom (s3.heap.objs.size + 1) scope.names (cloFrom X.env.cells scope.names [])) s3.heap.objs.size X.env = ce at I4 pg pk pe ⊢
  have cL : ce.locals = s3.heap.objs.size := by subst hce; rfl
  generalize hH3 : upd H2 D (dN (pwOf X) D [] 0) = H3 at I3 I4 pg pk pe w0 nfp f3
  generalize hs4 : ({ s3 with heap := pushCells (s3.heap.push { cls := .type "dict", data := .dict #[] }) scope.names } : Shared) = s4 at I4 ⊢
  have st4 : tn 0 s4.heap := T.keep _ _ _ st3 fun b _ o e => by rw [← hs4]; exact pushCells_keeps _ _ _ _ (Heap.get?_push_of_some _ e)
  have stat : ∀ {σ' : L2.St} {H' : Hp} {s' : Shared}, Inv (X.blk s3 H3 scope ce fp) [] σ' H' s' → (∀ b ∈ fp, H' b = none) → ∀ b ∈ fp, FpOk (X.blk s3 H3 scope ce fp) [] H' b := fun {σ' H' s'} J' hn b hb =>
    ⟨hn b hb, (J'.ok.exf b hb).1, J'.ok.exfs b hb, .inl hb, fun x c e => (J'.ok.exf b hb).2 x c e, fun p hp => by cases (show p ∈ ([] : List (Addr × Obj)) from hp)⟩
  have loop : codeAny (model X.prog X.w) X.A (.compLoop (.DictComp kx vx [⟨tg, iter, [], 0⟩] scope pos) 0 (.ref it) (.ref D) ce) (compPost (model X.prog X.w) X.A X.xe use Qf (.ref D) s3.heap.objs.size) s4 := by
    refine compLoop_anyD (fun n s' => ∃ i H', Inv (X.blk s3 H3 scope ce fp) [] (wipe σ (own.map (·.2))) H' s' ∧ tn i s'.heap ∧ (∀ b ∈ fp, H' b = none) ∧ W i n H') ?_ m0 ⟨0, H3, I4, st4, nfp, w0⟩
    rintro n s5 ⟨i, H5, I5, st5, n5, w5⟩
    rcases turn i n H5 w5 with ⟨stop, qq⟩ | ⟨go, Nx, hNx, step⟩
    · refine thnF (T.done (X.blk s3 H3 scope ce fp) rfl rfl rfl hc i [] s5 _ H5 (fun _ _ => False) I5 (stat I5 n5) st5 stop) fun r s6 ⟨hr, I6⟩ => ?_
      subst hr
      have I7 : Inv X pins σ H5 s6 := I3.call' (ch := fp) I6.os I6.base I6.hok I6.bare fun b hb => ⟨(f3 b hb).1.2.2.2.1, (f3 b hb).1.2.1, (f3 b hb).1.2.2.2.2.1, (f3 b hb).1.2.2.2.2.2⟩
      have nC : H5 s3.heap.objs.size = none := by rw [← cL]; exact I6.free
      obtain ⟨m, hn, _⟩ := I6.loc
      exact hRR D s3.heap.objs.size s6 m H5 I7 qq (by rw [← cL]; exact hn) (I3.fpOk (Nat.le_refl _) nC)
    · refine thnF (T.item (X.blk s3 H3 scope ce fp) rfl rfl rfl hc i [] s5 _ H5 (fun _ _ => False) I5 (stat I5 n5) st5 go) fun r s6 ⟨u, hr, h6⟩ => ?_
      subst hr
      refine thnF h6 fun _ s7 ⟨x, H7, I7, r7, y7, st7, n7⟩ => ?_
      refine thnF (pg.run _ s7 _ H7 x u _ (I7.pinned (stat I7 n7) (T.obj _ _ st7)) r7 (step x H7 y7)) fun _ s8 ⟨σ8, H8, I8, hw8, q8⟩ => ?_
      refine thnF ((pts_nil (X := X.blk s3 H3 scope ce fp)).run _ s8 σ8 H8 (fun b H' => b = true ∧ H' = H8) I8 ⟨rfl, rfl⟩) fun b s9 ⟨H9, I9, eb, es⟩ => ?_
      subst eb es
      rw [if_pos rfl]
      refine thnF (pk.run _ s9 σ8 _ _ I9 q8) fun z s10 ⟨yk, H10, I10, r10, q10⟩ => ?_
      refine thnF (pe.run _ s10 σ8 H10 _ I10 q10) fun z2 s11 ⟨yv, H11, I11, r11, b, xs, ep, k, ek, hD11, hks, hkb, hz11, nx⟩ => ?_
      subst ek
      cases (show z = Value.ref b from r10)
      refine n_dictSet (X := X.blk s3 H3 scope ce fp) hu I11 hD11 hks hkb hz11 r11 fun s12 ep' I12 => ?_
      obtain ⟨m', hm, w'⟩ := hNx _ (nx ep')
      have pin' : ∀ c ∈ fp, ∀ o, s7.heap.get? c = some o → s12.heap.get? c = some o ∧ upd H11 D (dN (pwOf X) D (stK xs k b yv) ep') c = none := fun c hc' o e =>
        let z := I12.pin (c, o) (List.mem_append_right _ (List.mem_append_right _ (mem_pinsAt hc' e)))
        ⟨z.1, z.2.1⟩
      refine ⟨m', hm, i + 1, _, (I12.unpinned (pins := [])).weak (by rw [← hw8, wipe_length]) (fun j v e => ?_), T.keep _ _ _ st7 fun c hc' o e => (pin' c hc' o e).1, fun c hc' => ?_, w'⟩
      · rw [← hw8] at e
        exact (wipe_some e).1
      · obtain ⟨o, e, _⟩ := T.obj _ _ st7 c hc'
        exact (pin' c hc' o e).2
  exact codeAny_compStart_dict loop (T.self X.A 0 _ _ _ st4 loop)
theorem pe_dcn {kx vx tg iter : Expr} {scope : Scope} {own : List (Str × Nat)} {pos : Pos} {wi : TI} {g : TG} {tk tv : TE} (hc : X.calm = true) (hu : X.A.units + 64 < cLine) (hN : X.N.Nodup) (hi : PI X tg iter wi) (ok : BlkOk X.N X.env.scope scope own)
    (hg : ∀ (s : Shared) (H : Hp) (C : Addr) (cl : List (Str × Addr)) (fp : List Addr), PG (X.blk s H scope (compEnvC scope cl C X.env) fp) tg g)
    (hk : ∀ (s : Shared) (H : Hp) (C : Addr) (cl : List (Str × Addr)) (fp : List Addr), PE (X.blk s H scope (compEnvC scope cl C X.env) fp) kx tk)
    (he : ∀ (s : Shared) (H : Hp) (C : Addr) (cl : List (Str × Addr)) (fp : List Addr), PE (X.blk s H scope (compEnvC scope cl C X.env) fp) vx tv) (hs : ∀ x, foldedSetIterable iter X.env x = pure x := by intro _; rfl) :
    PE X (.DictComp kx vx [⟨tg, iter, [], 0⟩] scope pos) (tDcN (pwOf X) wi g tk tv (own.map (·.2))) := by
  refine ⟨fun pins s σ H Q I h => ?_⟩
  rw [arm_eval_DictComp]
  refine dcn_core I hc hu hN hi ok hg hk he hs h fun D C s' m H' I' q hn ⟨f0, f1, f2, f3, f4, f5⟩ => ⟨m, hn, fun h'' sb => ?_⟩
  exact ⟨.ref D, H', I'.turned (t' := s'.toks) (fun b o hb e => (sb.2 b hb).trans e) f0 f1 f3 f4 f5, rfl, q⟩
/-- y = {..}, y a local -/
theorem ps_setDcn {i : Nat} {y : Str} {py : Pos} {kx vx tg iter : Expr} {scope : Scope} {own : List (Str × Nat)} {pos spos : Pos} {wi : TI} {g : TG} {tk tv : TE} (hy : X.N[i]? = some y) (hyl : X.env.scope.names.lookup y = some .local)
    (hsw : swapsWith (.DictComp kx vx [⟨tg, iter, [], 0⟩] scope pos) (some (.Name y py)) spos.line X.env = pure true) (hc : X.calm = true) (hu : X.A.units + 64 < cLine) (hN : X.N.Nodup) (hi : PI X tg iter wi) (ok : BlkOk X.N X.env.scope scope own)
    (hg : ∀ (s : Shared) (H : Hp) (C : Addr) (cl : List (Str × Addr)) (fp : List Addr), PG (X.blk s H scope (compEnvC scope cl C X.env) fp) tg g)
    (hk : ∀ (s : Shared) (H : Hp) (C : Addr) (cl : List (Str × Addr)) (fp : List Addr), PE (X.blk s H scope (compEnvC scope cl C X.env) fp) kx tk)
    (he : ∀ (s : Shared) (H : Hp) (C : Addr) (cl : List (Str × Addr)) (fp : List Addr), PE (X.blk s H scope (compEnvC scope cl C X.env) fp) vx tv) (hs : ∀ x, foldedSetIterable iter X.env x = pure x := by intro _; rfl) :
    PS X (.Assign [.Name y py] (.DictComp kx vx [⟨tg, iter, [], 0⟩] scope pos) spos) (tAsg (tDcN (pwOf X) wi g tk tv (own.map (·.2))) (L2.gName i)) := by
  refine ⟨fun pins s σ H D I h => ?_⟩
  rw [exec_Assign_Name_used _ _ _ _ hsw]
  refine wpAny_bind (wpAny_standAt (wpAny_bind ?_))
  show wpAny _ X.A (do let _ ← comprehension (.DictComp kx vx [⟨tg, iter, [], 0⟩] scope pos) scope X.env (firstIterPos [⟨tg, iter, [], 0⟩] pos) newDict false (eval iter X.env) (some (assign (.Name y py) X.env))) _ _ s
  have h : tDcN (pwOf X) wi g tk tv (own.map (·.2)) σ H (fun x H1 => L2.gName i x σ H1 D.nx) := h
  refine wpAny_bind (thn (dcn_core (Qf := fun _ s' => SP X pins D .next s') I hc hu hN hi ok hg hk he hs h fun L C s' m H' I' q hn ⟨f0, f1, f2, f3, f4, f5⟩ => ?_) fun _ s' hq => wpAny_pure (wpAny_pure hq))
  show wpAny _ _ (assign (.Name y py) X.env (.ref L)) _ _ _
  refine wpAny_assign_Name (store_ok2 (v := V.ref L) I' hN hy (.inl hyl) rfl (fun s2 I2 ⟨a, sb, ha⟩ => ?_) (.inr hyl))
  refine ⟨m, hn.sameBut sb (ha.elim (fun z => by rw [z]; exact f1) fun z e => f4 y a z e.symm), fun h3 sb3 => ?_⟩
  exact ⟨_, H', I2.turned (t' := s2.toks) (fun b o hb e => (sb3.2 b hb).trans e) f0 f1 f3 f4 f5, q⟩
theorem sw_trueD {kx vx : Expr} {gs : List Comprehension} {scope : Scope} {pos py : Pos} {y : Str} {l : Nat} {env : PySem.Env} (hk : env.scope.kind = .function) (hy : env.scope.names.lookup y = some .local) (hl : (py.line == pos.line) = true)
    (ha : (scope.names.any fun (n, k) => n == y && (k == .local || k == .cell)) = false) : swapsWith (.DictComp kx vx gs scope pos) (some (.Name y py)) l env = pure true := by
  have ky : env.kindOf y = some .local := hy
  have hb : env.blockKind = .function := by unfold Env.blockKind; rw [hk]; rfl
  unfold swapsWith
  simp only [hb, ky, ha, Expr.pos, hl]
  rfl
end
end Dl
set_option autoImplicit true
/-! The data layer: a dict that a comprehension makes, over values as trees. -/
namespace Dl
open PySem PySem.Spec PyProof.Rows L2 TL
def dcL (g : Gm) (fk fv : SE) (r0 : Env) : List D → List D × List D → Sto → R (List D × List D)
  | [], acc, m => .ok acc m
  | d :: l, acc, m => match g d r0 with
    | none => .bad
    | some r' => bindN (fk r' m) fun kd m => bindN (fv r' m) fun vd m => match keyT kd with
      | some k => if acc.1.length < LIM then dcL g fk fv r0 l (dPut acc.1 acc.2 kd k vd) m else .bad
      | none => .bad
def sDc (vs : List Nat) (i : SL) (g : Gm) (fk fv : SE) : SE := fun r m => bindR (i r m) fun ds m => if vs.all (bare r) = true then bindN (dcL g fk fv (wipeE r vs) ds ([], []) m) fun p m => .ok (.dct p.1 p.2) m else .bad
/-- the dict in the making -/
structure MkD (D : Addr) (y : Sx pw) (H : Hp) (p : List Dl.D × List Dl.D) (xs : List (NestedKey × Addr × V)) (ep : Nat) : Prop where
  at' : H D = some (dN pw D xs ep)
  rep : DPairs y.F y.io p.1 p.2 xs
  nA : D ∉ y.A1 ++ y.A2
  nF : y.F D = none
theorem MkD.stay {D : Addr} {y z : Sx pw} {H H' : Hp} {p : List Dl.D × List Dl.D} {xs : List (NestedKey × Addr × V)} {ep : Nat} (h : MkD D y H p xs ep) (st : StE y H z H') : MkD D z H' p xs ep := by
  have n2 : D ∉ y.A2 := fun q => h.nA (List.mem_append_right _ q)
  refine ⟨st.st.keep D _ h.at' n2, h.rep.mono st.st.F st.st.io, fun q => ?_, ?_⟩
  · rcases List.mem_append.mp q with q | q
    · rw [st.a1] at q
      exact h.nA (List.mem_append_left _ q)
    · rcases st.st.newA D q with q | q
      · exact n2 q
      · rw [h.at'] at q; cases q
  · cases e : z.F D with
    | none => rfl
    | some o =>
      rcases st.st.newF D h.nF (by rw [e]; exact fun z => by cases z) with q | q
      · rw [h.at'] at q; cases q
      · exact absurd q n2
/-- what is nobody's is written -/
theorem nobody_put {D : Addr} {y : Sx pw} {H : Hp} {o' : HO} {r : Env} {m : Sto} {s : L2.St} (nA : D ∉ y.A1 ++ y.A2) (nF : y.F D = none) (R : Rel y r m s H) :
    Rel y r m s (upd H D o') ∧ ∀ {x : Sx pw} {H1 : Hp}, H1 D = none → StE x H1 y H → StE x H1 y (upd H D o') := by
  have ne1 : ∀ b ∈ y.A1, b ≠ D := fun b hb e => nA (List.mem_append_left _ (e ▸ hb))
  have ne2 : ∀ b ∈ y.A2, b ≠ D := fun b hb e => nA (List.mem_append_right _ (e ▸ hb))
  refine ⟨⟨fun b o e => ?_, R.vars.mono (.refl _) (.refl _) fun b hb o e => by rw [upd_ne (ne1 b hb)]; exact e, R.sto.mono (.refl _) (.refl _) fun b hb o e => by rw [upd_ne (ne2 b hb)]; exact e, R.nd, R.nF⟩, fun {x H1} hD st => ⟨⟨st.st.F, st.st.io, fun b o e n => ?_, fun b e => ?_, st.st.newF, st.st.newA⟩, st.a1⟩⟩
  · rw [upd_ne (ne_of_none e nF)]
    exact R.sub _ _ e
  · rw [upd_ne (ne_of_none e hD)]
    exact st.st.keep b o e n
  · by_cases hb : b = D
    · subst hb; exact hD
    · rw [upd_ne hb] at e
      exact st.st.there b e
section
variable {w : Wi} {g : Gm} {fk fv : SE} {i : SL} {ws vs : List Nat}
theorem dc_rd (hw : ∀ i ∈ ws, i ∈ vs) (s : L2.St) (H : Hp) (Q : VK) (q : rd (PV (pw := pw)) w (sDc vs i g fk fv) s H Q) : tDcN pw (rd (PIt (pw := pw)) w i) (rdG pw ws g) (rd (PV (pw := pw)) w.no fk) (rd (PV (pw := pw)) w.no fv) vs s H Q := by
  obtain ⟨x, r, m, R, q⟩ := q
  refine rd_bind R q fun ds m1 J y1 H1 R1 sv st1 q1 => ?_
  obtain ⟨hb, q1⟩ := Fin.ite q1
  intro D hD
  have hDF : y1.F D = none := by
    cases e : y1.F D with
    | none => rfl
    | some o => rw [R1.sub _ _ e] at hD; cases hD
  have hDA : D ∉ y1.A1 ++ y1.A2 := fun z => R1.there D z hD
  have hR1 : Rel y1 (wipeE r vs) m1 (wipe s vs) H1 := ⟨R1.sub, R1.vars.wipe vs hb, R1.sto, R1.nd, R1.nF⟩
  let Go : Nat → Hp → Prop := fun i H => ∃ y m p xs ep, Rel y (wipeE r vs) m (wipe s vs) H ∧ MkD D y H p xs ep ∧ StE y1 H1 y H ∧ Fin PV w y1 r s H1 Q (bindN (dcL g fk fv (wipeE r vs) (ds.drop i) p m) fun p m => .ok (.dct p.1 p.2) m)
  refine ⟨fun i n H => n = ds.length - i ∧ i ≤ ds.length ∧ Go i H, ⟨ds.length, by simp, Nat.zero_le _, y1, m1, ([], []), [], 0, (nobody_put hDA hDF hR1).1, ⟨upd_same, .nil, hDA, hDF⟩, (nobody_put hDA hDF hR1).2 hD .refl, by simpa using q1⟩, ?_⟩
  rintro i n H ⟨rfl, hi, y, m, p, xs, ep, R, mk, st, q⟩
  by_cases hlt : i < ds.length
  · refine .inr ⟨sv.go y.F H i st.st.F R.sub hlt, Go (i + 1), fun H' h' => ⟨ds.length - (i + 1), by omega, rfl, hlt, h'⟩, fun v H' hy => ?_⟩
    obtain ⟨z, Rz, pz, stz⟩ := R.yl (sv.yld y.F y.io H i ds[i] v H' st.st.F st.st.io R.sub (List.getElem?_eq_getElem hlt) hy)
    have mkz := mk.stay stz
    have hd : ds.drop i = ds[i] :: ds.drop (i + 1) := List.drop_eq_getElem_cons hlt
    rw [hd] at q
    unfold dcL at q
    refine ⟨z, wipeE r vs, m, ds[i], Rz, pz, ?_⟩
    cases eg : g ds[i] (wipeE r vs) with
    | none => rw [eg] at q; exact q.elim
    | some r' =>
      rw [eg] at q
      intro s' z' R' e1 e2 e3 e4 o'
      refine ⟨(o'.wipe hw).trans (wipe_wipe vs), z', r', m, R', ?_⟩
      have st' : Stp y1.A2 y1 H1 z' H' := Stp.trans (Stp.trans st.st stz.st) ⟨by rw [e1]; exact .refl _, by rw [e2]; exact .refl _, fun _ _ h _ => h, fun _ h => h, fun b h1 h2 => by rw [e1] at h2; exact absurd h1 h2, fun b h => .inl (by rw [← e3]; exact h)⟩
      have mk' : MkD D z' H' p xs ep := ⟨mkz.at', by rw [e1, e2]; exact mkz.rep, fun hm => mkz.nA (by
        rcases List.mem_append.mp hm with hm | hm
        · exact List.mem_append_left _ (e4 _ hm)
        · rw [e3] at hm; exact List.mem_append_right _ hm), by rw [e1]; exact mkz.nF⟩
      have back : ∀ {u2 : Sx pw} {H5 : Hp} {m5 : Sto} {r5 : Env} {s5 : L2.St} {p5 : List Dl.D × List Dl.D} {xs5 : List (NestedKey × Addr × V)} {ep5 : Nat}, Rel u2 r5 m5 s5 H5 → Stp y1.A2 y1 H1 u2 H5 → MkD D u2 H5 p5 xs5 ep5 → Rel (u2.w1 (y1.A1)) (wipeE r vs) m5 (wipe s vs) H5 ∧ StE y1 H1 (u2.w1 (y1.A1)) H5 ∧ MkD D (u2.w1 (y1.A1)) H5 p5 xs5 ep5 := fun {u2 H5 m5 r5 s5 p5 xs5 ep5} R5 st5 mk5 => by
        obtain ⟨R6, st6⟩ := hR1.back st5 R5
        refine ⟨R6, st6, ⟨mk5.at', mk5.rep, fun hm => ?_, mk5.nF⟩⟩
        rcases List.mem_append.mp hm with hm | hm
        · exact R1.there D (List.mem_append_left _ hm) hD
        · exact mk5.nA (List.mem_append_right _ hm)
      dsimp only at q
      cases ek : fk r' m with
      | exc c v m => rw [ek] at q; exact q.elim
      | bad => rw [ek] at q; exact q.elim
      | ok kd m2 =>
        rw [ek] at q
        intro vk u H4 R4 p4 st4
        have mk4 := mk'.stay st4
        have st4' := Stp.trans st' st4.st
        refine ⟨u, r', m2, R4, ?_⟩
        have q : Fin PV w y1 r s H1 Q (bindN (bindN (fv r' m2) fun vd m => match keyT kd with
          | some k => if p.1.length < LIM then dcL g fk fv (wipeE r vs) (ds.drop (i + 1)) (dPut p.1 p.2 kd k vd) m else .bad
          | none => .bad) fun p m => .ok (.dct p.1 p.2) m) := q
        cases ev : fv r' m2 with
        | exc c v m => rw [ev] at q; exact q.elim
        | bad => rw [ev] at q; exact q.elim
        | ok vd m3 =>
          rw [ev] at q
          intro vv o H5 R5 p5 st5
          have mk5 := mk4.stay st5
          have st5' := Stp.trans st4' st5.st
          have q : Fin PV w y1 r s H1 Q (bindN (match keyT kd with
            | some k => if p.1.length < LIM then dcL g fk fv (wipeE r vs) (ds.drop (i + 1)) (dPut p.1 p.2 kd k vd) m3 else .bad
            | none => .bad) fun p m => .ok (.dct p.1 p.2) m) := q
          cases hk : keyT kd with
          | none => rw [hk] at q; exact q.elim
          | some k =>
            rw [hk] at q
            dsimp only at q
            by_cases hz : p.1.length < LIM
            · rw [if_pos hz] at q
              obtain ⟨b, rfl, rb, kb, e6, z6⟩ := (Pk.of (H := H5) (p4.mono st5.st.F st5.st.io)).key R5 hk
              refine ⟨b, xs, ep, k, rfl, mk5.at', keysAt_of R5.sub mk5.rep, kb, by rw [← mk5.rep.lengths.1, ← lim_eq]; exact hz, fun ep' => ?_⟩
              obtain ⟨R6, st6, mk6⟩ := back R5 st5' mk5
              obtain ⟨R7, st7⟩ := nobody_put (o' := dN pw D (stK xs k b vv) ep') mk6.nA mk6.nF R6
              exact ⟨_, m3, _, _, ep', R7, ⟨upd_same, mk6.rep.put rb e6 z6 p5, mk6.nA, mk6.nF⟩, st7 hD st6, q⟩
            · rw [if_neg hz] at q
              exact q.elim
  · have e : i = ds.length := by omega
    subst e
    refine .inl ⟨sv.stop y.F H st.st.F R.sub, ?_⟩
    rw [List.drop_length] at q
    have q : Fin PV w y1 r s H1 Q (.ok (.dct p.1 p.2) m) := q
    have hs : Sub y.F (upd y.F D (dN pw D xs ep)) := fun b o e => by rw [upd_ne (ne_of_none e mk.nF)]; exact e
    refine q (.ref D) (y.wF (upd y.F D (dN pw D xs ep))) H ⟨fun b o e => ?_, ?_, R.sto.mono hs (.refl _) fun b hb o e => e, R.nd, fun b hb => ?_⟩ (.dct upd_same (mk.rep.mono hs (.refl _))) ⟨⟨st.st.F.trans hs, st.st.io, st.st.keep, st.st.there, fun b h1 h2 => ?_, st.st.newA⟩, st.a1⟩
    · have e : upd y.F D (dN pw D xs ep) b = some o := e
      by_cases hbD : b = D
      · subst hbD
        rw [upd_same] at e
        cases e
        exact mk.at'
      · rw [upd_ne hbD] at e
        exact R.sub _ _ e
    · show Vars pw _ _ _ _ _ y.A1
      rw [st.a1]
      exact R1.vars.mono (st.st.F.trans hs) st.st.io fun b hb o e => st.st.keep b o e fun z => (List.nodup_append.mp R1.nd).2.2 b hb b z rfl
    · show upd y.F D (dN pw D xs ep) b = none
      rw [upd_ne (fun e => mk.nA (by rw [← e]; exact hb))]
      exact R.nF b hb
    · have h2 : upd y.F D (dN pw D xs ep) b ≠ none := h2
      by_cases hbD : b = D
      · subst hbD; exact .inl hD
      · rw [upd_ne hbD] at h2
        exact st.st.newF b h1 h2
end
theorem de_dc {X : Cx} {w : Wi} {kx vx tg iter : Expr} {scope : Scope} {pos : Pos} {i : SL} {g : Gm} {fk fv : SE} {ws : List Nat} (own : List (Str × Nat)) (hc : X.calm = true) (hu : X.A.units + 64 < cLine) (hN : X.N.Nodup) (hi : DI X w tg iter i) (ok : BlkOk X.N X.env.scope scope own)
    (hg : ∀ (s : Shared) (H : Hp) (C : Addr) (cl : List (Str × Addr)) (fp : List Addr), DG (X.blk s H scope (compEnvC scope cl C X.env) fp) tg ws g)
    (hk : ∀ (s : Shared) (H : Hp) (C : Addr) (cl : List (Str × Addr)) (fp : List Addr), DE (X.blk s H scope (compEnvC scope cl C X.env) fp) w.no kx fk)
    (he : ∀ (s : Shared) (H : Hp) (C : Addr) (cl : List (Str × Addr)) (fp : List Addr), DE (X.blk s H scope (compEnvC scope cl C X.env) fp) w.no vx fv) (hw : ∀ i ∈ ws, i ∈ own.map (·.2) := by decide) (hs : ∀ x, foldedSetIterable iter X.env x = pure x := by intro _; rfl) :
    DE X w (.DictComp kx vx [⟨tg, iter, [], 0⟩] scope pos) (sDc (own.map (·.2)) i g fk fv) :=
  PE.imp (pe_dcn hc hu hN hi ok hg hk he hs) fun s H Q q => dc_rd hw s H Q q
/-- y = {..}, y a local -/
theorem ds_setDc {X : Cx} {w : Wi} {k : Nat} {y : Str} {py : Pos} {kx vx tg iter : Expr} {scope : Scope} {pos spos : Pos} {i : SL} {g : Gm} {fk fv : SE} {ws : List Nat} (own : List (Str × Nat)) (hc : X.calm = true) (hu : X.A.units + 64 < cLine) (hN : X.N.Nodup) (hy : X.N[k]? = some y) (hyl : X.env.scope.names.lookup y = some .local)
    (hsw : swapsWith (.DictComp kx vx [⟨tg, iter, [], 0⟩] scope pos) (some (.Name y py)) spos.line X.env = pure true) (hi : DI X w tg iter i) (ok : BlkOk X.N X.env.scope scope own)
    (hg : ∀ (s : Shared) (H : Hp) (C : Addr) (cl : List (Str × Addr)) (fp : List Addr), DG (X.blk s H scope (compEnvC scope cl C X.env) fp) tg ws g)
    (hk : ∀ (s : Shared) (H : Hp) (C : Addr) (cl : List (Str × Addr)) (fp : List Addr), DE (X.blk s H scope (compEnvC scope cl C X.env) fp) w.no kx fk)
    (he : ∀ (s : Shared) (H : Hp) (C : Addr) (cl : List (Str × Addr)) (fp : List Addr), DE (X.blk s H scope (compEnvC scope cl C X.env) fp) w.no vx fv) (hw : ∀ i ∈ ws, i ∈ own.map (·.2) := by decide) (hs : ∀ x, foldedSetIterable iter X.env x = pure x := by intro _; rfl) :
    DS X w (.Assign [.Name y py] (.DictComp kx vx [⟨tg, iter, [], 0⟩] scope pos) spos) (sAsg (gN k) (sDc (own.map (·.2)) i g fk fv)) :=
  PS.imp (ps_setDcn hy hyl hsw hc hu hN hi ok hg hk he hs) fun E s H ⟨x, r, m, R, q⟩ => by
    have h : rd (PV (pw := pwOf X)) w (sDc (own.map (·.2)) i g fk fv) s H fun v H1 => L2.gName k v s H1 E.nx := by
      refine rd_bindS R q fun d m1 v y H1 R1 p1 st1 q1 => ?_
      obtain ⟨z, R', e1, e2, e3, e4⟩ := R1.putV k p1
      exact FinS.shift (.same e1 e2 e3 fun b hb => .inl (e4 b hb)) q1 _ z H1 R' .refl
    exact dc_rd hw s H _ h
end Dl
set_option autoImplicit true
/-! The data layer: one of two lists that are written out. -/
namespace Dl
open PySem PySem.Spec PyProof.Rows L2 TL
def cIf (t : SB) (fa fb : SCe) : SCe := fun r m => bindR (t r m) fun b m => if b = true then fa r m else fb r m
section
variable {X : Cx} {w : Wi} {a b c : Expr} {pos : Pos} {tc : SB} {fa fb : SCe}
theorem rdC_bindB {pw : PWd} {x : Sx pw} {r : Env} {m : Sto} {s : L2.St} {H : Hp} {Q : VK} {t : SB} {g : Bool → Sto → R Cell} {K : Bool → Hp → Prop} (R : Rel x r m s H) (h : FinC w x r s H Q (bindR (t r m) g))
    (k : ∀ (b : Bool) (m' : Sto) (y : Sx pw) (H' : Hp), Rel y r m' s H' → FinC w y r s H' Q (g b m') → K b H') : rd (PB (pw := pw)) w t s H K := by
  refine ⟨x, r, m, R, ?_⟩
  cases e : t r m with
  | ok b m' =>
    rw [e] at h
    intro b' y H' R' p st
    cases p
    exact k b m' y H' R' (FinC.shift st h)
  | exc c v m' =>
    rw [e] at h
    exact fun cls d y H' R' p st => h cls d y H' R' p st
  | bad =>
    rw [e] at h
    exact h
theorem dc_if (hc : DT X w c tc) (ha : DC X w a fa) (hb : DC X w b fb) : DC X w (.IfExp c a b pos) (cIf tc fa fb) :=
  PE.imp (pe_ifExp hc ha hb) fun s H Q ⟨x, r, m, R, q⟩ => by
    refine rdC_bindB R q fun k m1 y H1 R1 q1 => ?_
    cases k with
    | false =>
      rw [if_neg Bool.false_ne_true] at q1 ⊢
      exact ⟨y, r, m1, R1, q1⟩
    | true =>
      rw [if_pos rfl] at q1 ⊢
      exact ⟨y, r, m1, R1, q1⟩
end
end Dl
set_option autoImplicit true
/-! The data layer: a, b = e1, e2 where a name is a cell: the pair is made, then taken apart. -/
namespace Dl
open PySem PySem.Spec PyProof.Rows L2 TL
section
variable {w : Wi} {X : Cx} {a b c : Expr} {pos : Pos}
theorem ds_parC {i j : Nat} {n k : Str} {f h : SCe} {px py pt : Pos} {kt k2 : Nat} {pt2 : Pos} (hc : X.calm = true) (hN : X.N.Nodup) (hi : X.N[i]? = some n) (hj : X.N[j]? = some k) (hx : Loc X.env.scope n) (hy : Loc X.env.scope k) (ha : DC X w a f) (hb : DC X w b h)
    (fx : X.fn n = true ∨ X.env.scope.names.lookup n = some .local := by first | exact .inl rfl | exact .inr rfl) (fy : X.fn k = true ∨ X.env.scope.names.lookup k = some .local := by first | exact .inl rfl | exact .inr rfl)
    (hw : swappedStores [.Tuple [.Name n px, .Name k py] kt pt] (.Tuple [a, b] k2 pt2) X.env = pure none := by rfl)
    (hs : swapsWithSole [.Tuple [.Name n px, .Name k py] kt pt] (.Tuple [a, b] k2 pt2) pos.line X.env = pure false := by rfl) (h1 : starEach [a, b] X.env = (false, eval a X.env) :: starEach [b] X.env := by rfl) (h2 : starEach [b] X.env = [(false, eval b X.env)] := by rfl)
    (hn : (assignEach [.Name n px, .Name k py] X.env).length = 2 := by rfl) (hst : (assignEach [.Name n px, .Name k py] X.env).findIdx? (·.1) = none := by rfl) :
    DS X w (.Assign [.Tuple [.Name n px, .Name k py] kt pt] (.Tuple [a, b] k2 pt2) pos) (sPar i j f h) :=
  PS.imp (ps_asg (pe_tup (pa_cons ha (pa_cons hb pa_nil h2) h1)) (pg_tup hc (pgs_cons (pg_name hN hi hx fx) (pgs_cons (pg_name hN hj hy fy) pgs_nil)) hn hst) hs hw) fun E s H ⟨x, r, m, R, q⟩ => by
    refine rdC_bindW .refl R q fun c m1 v y H1 A R1 hc hA st st0 q1 => ?_
    refine rdC_bindW st0 R1 q1 fun d m2 u z H2 B R2 hd hB st2 st02 q2 => ?_
    refine ⟨by rw [sizeLine_eq]; exact Nat.le_of_ble_eq_true rfl, fun p hp => ⟨p, [v, u], rfl, SqT.of upd_same, rfl, ?_⟩⟩
    have Rn := R2.new (o := .tup [v, u]) hp
    have stn := StE.new (o := .tup [v, u]) R2 hp
    have hd' := hd.stay stn
    obtain ⟨t, R3, st3, wt⟩ := Rn.store (.inl (st02.trans stn)) ((hc.stay st2).stay stn) i
    obtain ⟨o, R4, st4, _⟩ := R3.store (.inr st3) (wt _ _ _ hd' (apart hc.rep hB)) j
    exact ⟨v, [u], rfl, u, [], rfl, rfl, q2 _ o _ R4 st4⟩
end
end Dl
set_option autoImplicit true
/-! The data layer: lambdas, made. -/
namespace Dl
open PySem PySem.Spec PyProof.Rows L2 TL LamX

theorem lamO_ok {P : Program} {w : World} {H : Hp} {h : Heap} {L : LamD} {c f : Addr} {dV doc pm ctv : Value} (e : h.get? f = some (PySem.W.kdv_obj "<lambda>" L.qual L.params (.expr L.body) L.scope L.clo dV doc pm c ctv)) : ObjOk P w H h f (LamO L c dV f) :=
  ⟨⟨doc, pm, ctv, e⟩, ⟨_, e⟩, fun g1 g2 ⟨doc, pm, ctv, e⟩ st => ⟨doc, pm, ctv, st _ e⟩⟩
/-- the table at p: each code object that it tells bears the name q -/
def TabH (H : Hp) (p : Addr) (ps : Array Value) (q : Str) : Prop := H p = some (.tbl ps) ∧ TriplesOk ps.toList ∧ ∀ (pos : Pos) (cv : Value), codeAmong pos ps.toList = some cv → ∃ c, cv = .ref c ∧ H c = some (CodeO c q)
section
variable {X : Cx} {pins : List (Addr × Obj)} {σ : L2.St} {H : Hp} {s : Shared}
/-- the end of a lambda's making -/
theorem lam_tail {p c : Addr} {ps : Array Value} {params : Arguments} {body : Expr} {scope : Scope} {pos : Pos} {ln : Nat} {dV : Value} {E : Value → Shared → Prop} {Q : Value → Shared → Prop} (I : Inv X pins σ H s) (TB : TabB X.base X.mg c p) (hcode : X.env.code = .ref c)
    (hT : TabH H p ps (X.env.qual ++ "<lambda>")) (hfree : ∀ y ∈ scope.names, y.2 = .free → ∃ c, X.env.cells.lookup y.1 = some c)
    (h : ∀ (f c' : Addr) (more : Array Value) (H1 : Hp) (s' : Shared), Inv X pins σ (upd H1 f (LamO ⟨params, body, scope, X.env.qual ++ "<lambda>", cloFrom X.env.cells scope.names []⟩ c' dV f)) s' → (∀ b o, b ≠ p → H b = some o → H1 b = some o) → (∀ b, H b = none → b ≠ c' → H1 b = none) → H1 f = none → H f = none → f ≠ c' →
      (H c' = none ∨ ∃ pos, codeAmong pos ps.toList = some (.ref c')) → H1 c' = some (CodeO c' (X.env.qual ++ "<lambda>")) → H1 p = some (.tbl (ps ++ more)) → TriplesOk (ps ++ more).toList → (∀ (pos : Pos) (cv : Value), codeAmong pos (ps ++ more).toList = some cv → codeAmong pos ps.toList = some cv ∨ cv = .ref c') → Q (.ref f) s') :
    wpAny (model X.prog X.w) X.A (makeTail "<lambda>" (X.env.qual ++ "<lambda>") params (.expr body) scope X.env dV .none none pos ln) Q E s := by
  obtain ⟨hP, ht, ha⟩ := hT
  have bP : s.heap.BuiltinsAt X.mg p := TB.bm.keeps I.bk
  have hP' : s.heap.get? p = some { cls := .none, data := .fields ps } := I.hok p _ hP
  have fin : ∀ {h1 : Heap} {t1 : Nat} {H1 : Hp} {c' : Addr} {doc pm ctv : Value} {tk : Nat} {Z : Prop}, Inv X pins σ H1 { s with heap := h1, toks := t1 } → (∀ f, Inv X pins σ (upd H1 f (LamO ⟨params, body, scope, X.env.qual ++ "<lambda>", cloFrom X.env.cells scope.names []⟩ c' dV f)) { s with heap := h1.push (PySem.W.kdv_obj "<lambda>" (X.env.qual ++ "<lambda>") params (.expr body) scope (cloFrom X.env.cells scope.names []) dV doc pm c' ctv), toks := tk } → f = h1.objs.size → Z) → Z := by
    intro h1 t1 H1 c' doc pm ctv tk Z I1 hz
    refine hz h1.objs.size ?_ rfl
    exact (I1.laid (t' := tk) (a := h1.objs.size) (fun b o e => Heap.get?_push_of_some _ e) (Nat.le_refl _) (lamO_ok (Heap.get?_push_size _ rfl)))
  cases hc : codeAmong pos ps.toList with
  | none =>
    refine PySem.W.kdv_makeTail (mg := X.mg) (c := c) (P := p) (ps := ps) (closure_ok hfree) I.ok.glob (I.mod.glob.keeps I.bk) hcode (TB.code.keeps I.bk) hP' ht hc TB.gP bP fun c' ctv doc h' tk hx hge hlt hrec htb => ?_
    obtain ⟨c2, oc, vs, t, e2, hoc, hd, hv⟩ := hrec
    cases e2
    have nC : H c' = none := I.hok.fresh hge
    have I1 := inv_table (t' := tk) (more := #[rawInt pos.line, rawInt pos.col, .ref c']) (h' := h') I hP
      (fun b o hb e => hx b o hb e) htb hge ⟨oc, vs, t, hoc, hd, hv⟩
    have hsz : s.heap.objs.size ≤ h'.objs.size := Nat.le_trans hge (Nat.le_of_lt hlt)
    have n1 : h'.objs.size ≠ c' := Nat.ne_of_gt hlt
    have n2 : h'.objs.size ≠ p := Nat.ne_of_gt (Nat.lt_of_lt_of_le (Heap.lt_size hP') hsz)
    have eL : (ps ++ #[rawInt pos.line, rawInt pos.col, .ref c']).toList = ps.toList ++ [rawInt pos.line, rawInt pos.col, .ref c'] := by simp
    refine fin (c' := c') (tk := tk) (doc := doc) (pm := (X.mg "__name__").getD .none) (ctv := ctv) (Z := _) I1 fun f I2 ef => ?_
    subst ef
    refine h h'.objs.size c' #[rawInt pos.line, rawInt pos.col, .ref c'] _ _ I2 (fun b o hb e => ?_) (fun b e hb => ?_) ?_ (I.hok.fresh hsz) n1 (.inl nC) upd_same ?_ ?_ fun p' cv hcv => ?_
    · rw [upd_ne (ne_of_none e nC), upd_ne hb]
      exact e
    · have hbp : b ≠ p := fun z => by rw [z, hP] at e; cases e
      rw [upd_ne hb, upd_ne hbp]
      exact e
    · rw [upd_ne n1, upd_ne n2]
      exact I.hok.fresh hsz
    · rw [upd_ne (ne_of_none hP nC), upd_same]
    · rw [eL]
      exact PySem.TriplesOk_snoc _ _ _ _ ht
    · rw [eL] at hcv
      exact among_app _ ht hcv
  | some cv =>
    obtain ⟨c', e, hco⟩ := ha pos cv hc
    subst e
    refine PySem.W.kdv_makeTailHit (mg := X.mg) (c := c) (P := p) (ps := ps) (closure_ok hfree) I.ok.glob (I.mod.glob.keeps I.bk) hcode (TB.code.keeps I.bk) hP' ht hc bP fun ctv doc h' tk hx hsz => ?_
    have I1 : Inv X pins σ H { s with heap := h', toks := tk } := I.kept hx
    refine fin (c' := c') (tk := tk) (doc := doc) (pm := (X.mg "__name__").getD .none) (ctv := ctv) (Z := _) I1 fun f I2 ef => ?_
    subst ef
    have nf : H h'.objs.size = none := I.hok.fresh hsz
    have e0 : ps ++ #[] = ps := by simp
    refine h h'.objs.size c' #[] H _ I2 (fun b o _ e => e) (fun b e _ => e) nf nf (Ne.symm (ne_of_none hco nf)) (.inr ⟨pos, hc⟩) hco (by rw [e0]; exact hP) (by rw [e0]; exact ht) fun p' cv hcv => ?_
    rw [e0] at hcv
    exact .inl hcv
/-- what is known of the lambdas of the def that is walked -/
class LamC where
  L : Nat → LamD
  P : Addr
  q : Str
/-- a lambda's making: the def's table of code objects is the objects' second -/
def sLamN [LamC] (jt k : Nat) : SE := fun (r : Env) (m : Sto) => match (m[jt]? : Option MObj) with
  | some (.tab p q) => if p = LamC.P ∧ q = LamC.q then .ok (.fn k (LamC.L k)) m else .bad
  | _ => .bad
def sLam [LamC] (k : Nat) : SE := sLamN 1 k
theorem lam_core {x : Sx (pwOf X)} {r : Env} {m : Sto} {p c : Addr} {params : Arguments} {body : Expr} {scope : Scope} {pos : Pos} {jt ln k : Nat} {dV : Value} {E : Value → Shared → Prop} {Q : Value → Shared → Prop} (I : Inv X pins σ H s) (R : Rel x r m σ H) (TB : TabB X.base X.mg c p) (hcode : X.env.code = .ref c)
    (hm : m[jt]? = some (.tab p (X.env.qual ++ "<lambda>"))) (hfree : ∀ y ∈ scope.names, y.2 = .free → ∃ c, X.env.cells.lookup y.1 = some c) (hdV : (params.defaults.isEmpty = true ∧ dV = .none) ∨ (params.defaults.isEmpty = false ∧ ∃ t, dV = .ref t ∧ x.F t = some (.tup [.int 0])))
    (h : ∀ (f : Addr) (y : Sx (pwOf X)) (H' : Hp) (s' : Shared), Inv X pins σ H' s' → Rel y r m σ H' → Rep y.F y.io (.fn k ⟨params, body, scope, X.env.qual ++ "<lambda>", cloFrom X.env.cells scope.names []⟩) (.ref f) → StE x H y H' → Q (.ref f) s') :
    wpAny (model X.prog X.w) X.A (makeTail "<lambda>" (X.env.qual ++ "<lambda>") params (.expr body) scope X.env dV .none none pos ln) Q E s := by
  obtain ⟨a, A0, A', ha, hp, ho, hw⟩ := Stos.at R.sto hm
  cases ho with
  | @tab _ _ ps hP ht hcd =>
  have pA2 : p ∈ x.A2 := (hp.mem_iff).mpr (by simp)
  have pF : x.F p = none := R.nF p (List.mem_append_right _ pA2)
  refine lam_tail I TB hcode ⟨hP, ht, fun ps' cv e => ?_⟩ hfree fun f c' more H1 s' I' k1 k2 nf1 nf nfc hc0 hc1 hP1 ht1 hcs => ?_
  · obtain ⟨c0, e1, e2⟩ := hcd ps' cv e
    exact ⟨c0, e1, R.sub _ _ e2⟩
  · have cF : x.F c' = none ∨ x.F c' = some (CodeO c' (X.env.qual ++ "<lambda>")) := by
      rcases hc0 with z | ⟨ps', z⟩
      · left
        cases e : x.F c' with
        | none => rfl
        | some o => rw [R.sub _ _ e] at z; cases z
      · obtain ⟨c0, e1, e2⟩ := hcd ps' _ z
        cases e1
        exact .inr e2
    have fF : x.F f = none := by
      cases e : x.F f with
      | none => rfl
      | some o => rw [R.sub _ _ e] at nf; cases nf
    have cP : c' ≠ p := fun z => by
      rcases hc0 with y | ⟨ps', y⟩
      · rw [z, hP] at y; cases y
      · obtain ⟨c0, e1, e2⟩ := hcd ps' _ y
        cases e1
        rw [z, pF] at e2
        cases e2
    obtain ⟨LL, hLL⟩ : ∃ LL, LL = LamO ⟨params, body, scope, X.env.qual ++ "<lambda>", cloFrom X.env.cells scope.names []⟩ c' dV f := ⟨_, rfl⟩
    rw [← hLL] at I'
    have sF : Sub x.F (upd (upd x.F c' (CodeO c' (X.env.qual ++ "<lambda>"))) f LL) := fun b o e => by
      rw [upd_ne (ne_of_none e fF)]
      by_cases hb : b = c'
      · subst hb
        rcases cF with z | z
        · rw [z] at e; cases e
        · rw [upd_same, ← z, e]
      · rw [upd_ne hb]
        exact e
    have keep : ∀ b o, b ≠ p → H b = some o → upd H1 f LL b = some o := fun b o hb e => by
      rw [upd_ne (ne_of_none e nf)]
      exact k1 b o hb e
    have at_c : upd H1 f LL c' = some (CodeO c' (X.env.qual ++ "<lambda>")) := by rw [upd_ne (Ne.symm nfc)]; exact hc1
    have npf : p ≠ f := ne_of_none hP nf
    have d1 : ∀ b ∈ x.A1, b ≠ p := fun b hb z => (List.nodup_append.mp R.nd).2.2 b hb b (z ▸ pA2) rfl
    have hA' : ∀ b ∈ A', b ≠ p := fun b hb z => by
      have nd2 := (List.nodup_append.mp R.nd).2.1
      have := (hp.nodup_iff).mp nd2
      rw [z] at hb
      exact (List.nodup_cons.mp this).1 (by simpa using hb)
    obtain ⟨A2', hp2, hst⟩ := hw (F' := upd (upd x.F c' (CodeO c' (X.env.qual ++ "<lambda>"))) f LL) (io' := x.io) (H' := upd H1 f LL) sF (.refl _) (fun b hb o e => keep b o (hA' b hb) e) (o' := .tab p (X.env.qual ++ "<lambda>")) (A1 := [p]) (.tab (ps := ps ++ more) (by rw [upd_ne npf]; exact hP1) ht1 fun ps' cv e => by
      rcases hcs ps' cv e with z | z
      · obtain ⟨c0, e1, e2⟩ := hcd ps' cv z
        exact ⟨c0, e1, sF _ _ e2⟩
      · refine ⟨c', z, ?_⟩
        rw [upd_ne (Ne.symm nfc), upd_same])
    have hset : m.set jt (.tab p (X.env.qual ++ "<lambda>")) = m := by
      apply List.ext_getElem?
      intro i
      by_cases hi : i = jt
      · subst hi
        rw [List.getElem?_set_self (by exact (List.getElem?_eq_some_iff.mp hm).1), hm]
      · rw [List.getElem?_set_ne (Ne.symm hi)]
    rw [hset] at hst
    have hperm : A2'.Perm x.A2 := hp2.trans hp.symm
    have hmem : ∀ b, b ∈ A2' ↔ b ∈ x.A2 := fun b => hperm.mem_iff
    refine h f ⟨upd (upd x.F c' (CodeO c' (X.env.qual ++ "<lambda>"))) f LL, x.io, x.A1, A2'⟩ _ s' I' ⟨fun b o e => ?_, R.vars.mono sF (.refl _) fun b hb o e => keep b o (d1 b hb) e, hst, ?_, fun b hb => ?_⟩ ?_ ⟨⟨sF, .refl _, fun b o e hb => keep b o (fun z => hb (z ▸ pA2)) e, fun b e => ?_, fun b e1 e2 => ?_, fun b hb => .inl ((hmem b).mp hb)⟩, rfl⟩
    · have e : upd (upd x.F c' (CodeO c' (X.env.qual ++ "<lambda>"))) f LL b = some o := e
      by_cases hb : b = f
      · subst hb
        rw [upd_same] at e ⊢
        exact e
      · have e : upd (upd x.F c' (CodeO c' (X.env.qual ++ "<lambda>"))) f LL b = some o := e
        rw [upd_ne hb] at e
        by_cases hb2 : b = c'
        · subst hb2
          rw [upd_same] at e
          rw [at_c, e]
        · rw [upd_ne hb2] at e
          exact keep b o (fun z => by rw [z, pF] at e; cases e) (R.sub _ _ e)
    · exact (List.Perm.append_left x.A1 hperm).nodup_iff.mpr R.nd
    · have hb : b ∈ x.A1 ++ A2' := hb
      have hb' : b ∈ x.A1 ++ x.A2 := by
        rcases List.mem_append.mp hb with z | z
        · exact List.mem_append_left _ z
        · exact List.mem_append_right _ ((hmem b).mp z)
      have n1 : b ≠ f := fun z => R.there b hb' (by rw [z]; exact nf)
      have n2 : b ≠ c' := fun z => by
        rcases hc0 with y | ⟨ps', y⟩
        · exact R.there b hb' (by rw [z]; exact y)
        · obtain ⟨c0, e1, e2⟩ := hcd ps' _ y
          cases e1
          rw [← z, R.nF b hb'] at e2
          cases e2
      show upd (upd x.F c' (CodeO c' (X.env.qual ++ "<lambda>"))) f LL b = none
      rw [upd_ne n1, upd_ne n2]
      exact R.nF b hb'
    · refine .fn (c := c') (dV := dV) (by show upd (upd x.F c' (CodeO c' (X.env.qual ++ "<lambda>"))) f LL f = _; rw [upd_same, hLL]) (by show upd (upd x.F c' (CodeO c' (X.env.qual ++ "<lambda>"))) f LL c' = _; rw [upd_ne (Ne.symm nfc), upd_same]) ?_
      rcases hdV with z | ⟨z0, t, z1, z2⟩
      · exact .inl z
      · exact .inr ⟨z0, t, z1, sF _ _ z2⟩
    · cases e2 : H b with
      | none => rfl
      | some o =>
        exfalso
        by_cases hb : b = p
        · subst hb
          rw [upd_ne npf, hP1] at e
          cases e
        · rw [keep b o hb e2] at e
          cases e
    · by_cases hb : b = f
      · rw [hb]; exact .inl nf
      · by_cases hb2 : b = c'
        · rw [hb2] at e1 ⊢
          rcases cF with z | z
          · rcases hc0 with y | ⟨ps', y⟩
            · exact .inl y
            · obtain ⟨c0, e3, e4⟩ := hcd ps' _ y
              cases e3
              rw [z] at e4
              cases e4
          · rw [z] at e1; cases e1
        · exfalso
          apply e2
          show upd (upd x.F c' (CodeO c' (X.env.qual ++ "<lambda>"))) f LL b = none
          rw [upd_ne hb, upd_ne hb2]
          exact e1
variable {w : Wi} [C : LamC] {k : Nat} {p c : Addr} {params : Arguments} {body : Expr} {scope : Scope} {pos : Pos}
theorem lam_sem {jt : Nat} {s : L2.St} {H : Hp} {Q : VK} (h : rd (PV (pw := pwOf X)) w (sLamN jt k) s H Q) : ∃ x r m, Rel x r m s H ∧ m[jt]? = some (.tab C.P C.q) ∧ Fin (PV (pw := pwOf X)) w x r s H Q (.ok (.fn k (C.L k)) m) := by
  obtain ⟨x, r, m, R, q⟩ := h
  unfold sLamN at q
  split at q
  · rename_i p q' e
    by_cases hc : p = LamC.P ∧ q' = LamC.q
    · rw [if_pos hc] at q
      rw [hc.1, hc.2] at e
      exact ⟨x, r, m, R, e, q⟩
    · rw [if_neg hc] at q
      exact q.elim
  · exact q.elim
/-- lambda: body -/
theorem de_lam0N {jt : Nat} (TB : TabB X.base X.mg c p) (hcode : X.env.code = .ref c) (hP : C.P = p) (hq : C.q = X.env.qual ++ "<lambda>") (hL : C.L k = ⟨params, body, scope, X.env.qual ++ "<lambda>", cloFrom X.env.cells scope.names []⟩) (hfree0 : ∀ y ∈ scope.names, y.2 = .free → X.env.scope.names.lookup y.1 = some .cell ∨ X.env.scope.names.lookup y.1 = some .free)
    (hdef : defaultsOf params X.env = ([], [])) (hd0 : params.defaults.isEmpty = true) : DE X w (.Lambda params body scope pos) (sLamN jt k) := ⟨fun pins s σ H Q I h => by
  obtain ⟨x, r, m, R, hm, q⟩ := lam_sem h
  have hfree : ∀ y ∈ scope.names, y.2 = .free → ∃ c, X.env.cells.lookup y.1 = some c := fun y hy e => (hfree0 y hy e).elim (fun z => I.ok.has _ (.inl z)) fun z => I.ok.has _ (.inr z)
  rw [hP, hq] at hm
  rw [hL] at q
  refine PySem.W.kla_eval hdef ?_
  rw [makeFunction_eq]
  simp only [List.zip_nil_right, List.filterMap_nil, List.isEmpty_nil, if_true, pure_bind]
  exact lam_core (k := k) I R TB hcode hm hfree (.inl ⟨hd0, rfl⟩) fun f y H' s' I' R' rp st => ⟨.ref f, H', I', rfl, q _ y H' R' rp st⟩⟩
/-- lambda a=0: body -/
theorem de_lam1N {jt j : Nat} {cp : Pos} (TB : TabB X.base X.mg c p) (hcode : X.env.code = .ref c) (hP : C.P = p) (hq : C.q = X.env.qual ++ "<lambda>") (hL : C.L k = ⟨params, body, scope, X.env.qual ++ "<lambda>", cloFrom X.env.cells scope.names []⟩) (hfree0 : ∀ y ∈ scope.names, y.2 = .free → X.env.scope.names.lookup y.1 = some .cell ∨ X.env.scope.names.lookup y.1 = some .free)
    (hd : params.defaults = [.Constant (.int 0) j cp]) (hk0 : params.kw_defaults = []) : DE X w (.Lambda params body scope pos) (sLamN jt k) := ⟨fun pins s σ H Q I h => by
  obtain ⟨x, r, m, R, hm, q⟩ := lam_sem h
  have hfree : ∀ y ∈ scope.names, y.2 = .free → ∃ c, X.env.cells.lookup y.1 = some c := fun y hy e => (hfree0 y hy e).elim (fun z => I.ok.has _ (.inl z)) fun z => I.ok.has _ (.inr z)
  rw [hP, hq] at hm
  rw [hL] at q
  refine PySem.W.kdv_lam (by rw [hd]; rfl) hk0 ?_
  rw [hd]
  refine PySem.W.kdv_all1 (thn ((pe_int (X := X) (i := 0) (j := j) (pos := cp)).run pins s σ H (fun v H1 => v = .int 0 ∧ H1 = H) I ⟨rfl, rfl⟩) fun u s1 ⟨v, H1, I1, r1, ev, eH⟩ => ?_)
  subst ev
  rw [eH] at I1
  refine PySem.W.kdv_all0 ?_
  rw [makeFunction_eq]
  simp only [List.zip_nil_right, List.filterMap_nil, List.isEmpty_nil, if_true, pure_bind, List.isEmpty_cons, Bool.false_eq_true, if_false]
  refine wpAny_bind (wpAny_newTextTuple ?_)
  have hn : H s1.heap.objs.size = none := I1.hok.fresh (Nat.le_refl _)
  have I2 : Inv X pins σ (upd H s1.heap.objs.size (.tup [.int 0])) { s1 with heap := s1.heap.push { cls := .type "tuple", data := .seq [u].toArray } } :=
    I1.laid (t' := s1.toks) (fun b o e => Heap.get?_push_of_some _ e) (Nat.le_refl _) (show ObjOk X.prog X.w _ _ _ (.tup [.int 0]) from ⟨by rw [sizeLine_eq]; exact Nat.le_of_ble_eq_true rfl, [u], .cons r1 .nil, ⟨_, Heap.get?_push_size _ rfl, rfl, _, rfl⟩⟩)
  have R2 := R.new (o := .tup [.int 0]) hn
  have st2 := StE.new (o := .tup [.int 0]) R hn
  exact lam_core (k := k) I2 R2 TB hcode hm hfree (.inr ⟨by rw [hd]; rfl, _, rfl, upd_same⟩) fun f y H' s' I' R' rp st => ⟨.ref f, H', I', rfl, q _ y H' R' rp (st2.trans st)⟩⟩
theorem de_lam0 (TB : TabB X.base X.mg c p) (hcode : X.env.code = .ref c) (hP : C.P = p) (hq : C.q = X.env.qual ++ "<lambda>") (hL : C.L k = ⟨params, body, scope, X.env.qual ++ "<lambda>", cloFrom X.env.cells scope.names []⟩) (hfree0 : ∀ y ∈ scope.names, y.2 = .free → X.env.scope.names.lookup y.1 = some .cell ∨ X.env.scope.names.lookup y.1 = some .free)
    (hdef : defaultsOf params X.env = ([], [])) (hd0 : params.defaults.isEmpty = true) : DE X w (.Lambda params body scope pos) (sLam k) := de_lam0N (jt := 1) TB hcode hP hq hL hfree0 hdef hd0
theorem de_lam1 {j : Nat} {cp : Pos} (TB : TabB X.base X.mg c p) (hcode : X.env.code = .ref c) (hP : C.P = p) (hq : C.q = X.env.qual ++ "<lambda>") (hL : C.L k = ⟨params, body, scope, X.env.qual ++ "<lambda>", cloFrom X.env.cells scope.names []⟩) (hfree0 : ∀ y ∈ scope.names, y.2 = .free → X.env.scope.names.lookup y.1 = some .cell ∨ X.env.scope.names.lookup y.1 = some .free)
    (hd : params.defaults = [.Constant (.int 0) j cp]) (hk0 : params.kw_defaults = []) : DE X w (.Lambda params body scope pos) (sLam k) := de_lam1N (jt := 1) TB hcode hP hq hL hfree0 hd hk0
end
end Dl
set_option autoImplicit true
/-! The data layer: lambdas, called by the def that they are handed to. -/
namespace Dl
open PySem PySem.Spec PyProof.Rows L2 TL LamX

/-- how a lambda of the text binds what it gets -/
structure LamB (L : LamD) (bs : List Str) : Prop where
  b0 : L.params.defaults.isEmpty = true → bs = [] ∧ ∀ (doc pm cv ctv : Value), bindArgs (PySem.W.kdv_fn "<lambda>" L.qual L.params (.expr L.body) L.scope L.clo .none doc pm cv ctv) ⟨[], []⟩ = pure []
  b1 : L.params.defaults.isEmpty = false → ∃ a, bs = [a] ∧ ∀ (t : Addr) (doc pm cv ctv : Value), ∃ k : Option (Array Value) → Sem (List (Str × Value)), bindArgs (PySem.W.kdv_fn "<lambda>" L.qual L.params (.expr L.body) L.scope L.clo (.ref t) doc pm cv ctv) ⟨[], []⟩ = seqItems? (.ref t) >>= k ∧ ∀ u, k (some #[u]) = pure [(a, u)]
/-- the lambda as a def in a def -/
abbrev LamD.nf (L : LamD) (c' : Addr) : NdefX.NF := ⟨"<lambda>", L.qual, L.params, [], L.scope, L.clo, c'⟩
/-- the object at f is the k-th lambda -/
structure IsLam (H : Hp) (L : LamD) (f c' : Addr) : Prop where
  c : H c' = some (CodeO c' L.qual)
  o : ∃ dV, H f = some (LamO L c' dV f) ∧ ((L.params.defaults.isEmpty = true ∧ dV = .none) ∨ (L.params.defaults.isEmpty = false ∧ ∃ t, dV = .ref t ∧ H t = some (.tup [.int 0])))
section
variable {P : Program} {w : World} {K : PySem.W.Frag} {mg : Str → Option Value} {base : Heap} {N bs fr : List Str} {A : Around} {outer : List PySem.Env} {s : Shared} {H : Hp}
/-- what a lambda binds -/
theorem IsLam.binds {pins : List (Addr × Obj)} {σ : L2.St} {X : Cx} {L : LamD} {f c' : Addr} (hl : IsLam H L f c') (I : Inv X pins σ H s) (hB : LamB L bs) :
    ∃ dV doc pm ctv us, s.heap.get? f = some (PySem.W.kdv_obj "<lambda>" L.qual L.params (.expr L.body) L.scope L.clo dV doc pm c' ctv) ∧ Vals (bs.map fun _ => V.int 0) us ∧
      BindsTo s (PySem.W.kdv_fn "<lambda>" L.qual L.params (.expr L.body) L.scope L.clo dV doc pm (.ref c') ctv) ⟨[], []⟩ (bs.zip us) := by
  obtain ⟨dV, hf, hd⟩ := hl.o
  obtain ⟨⟨doc, pm, ctv, of1⟩, _, _⟩ := (show ObjOk X.prog X.w H s.heap f (LamO L c' dV f) from I.hok f _ hf)
  rcases hd with ⟨h1, rfl⟩ | ⟨h1, t, rfl, h3⟩
  · obtain ⟨rfl, e2⟩ := hB.b0 h1
    exact ⟨_, doc, pm, ctv, [], of1, .nil, BindsTo.of_eq (e2 doc pm (.ref c') ctv)⟩
  · obtain ⟨a, rfl, e2⟩ := hB.b1 h1
    obtain ⟨_, its, rv, o, g1, g2, n, g3⟩ := (show ObjOk X.prog X.w H s.heap t (.tup [.int 0]) from I.hok t _ h3)
    obtain ⟨u, rfl, _⟩ := vals1 rv
    obtain ⟨kk, k1, k2⟩ := e2 t doc pm (.ref c') ctv
    exact ⟨_, doc, pm, ctv, [u], of1, rv, BindsTo.of_defaults rfl g1 g3 k1 (k2 u)⟩
/-- the lambda's body, run -/
theorem lam_run {L : LamD} {f c' : Addr} {dV doc pm ctv : Value} {us : List Value} {k : Nat} {ws : List (Option V)} {Q : VK} {E : XK} {tb : TE} (of1 : s.heap.get? f = some (PySem.W.kdv_obj "<lambda>" L.qual L.params (.expr L.body) L.scope L.clo dV doc pm c' ctv))
    (hcode : s.heap.CodeRec (.ref c') L.qual) (rv : Vals (bs.map fun _ => V.int 0) us) (hb : BindsTo s (PySem.W.kdv_fn "<lambda>" L.qual L.params (.expr L.body) L.scope L.clo dV doc pm (.ref c') ctv) ⟨[], []⟩ (bs.zip us))
    (S : NdefX.NScope N bs fr L.scope) (C : NdefX.CellsAt L.clo fr ws s.heap H) (e0 : Env0 P w K mg base A outer s H) (hr : Room (k + 1) A)
    (hbody : Room k (A.deeper (NdefX.envF (L.nf c') f s.heap.objs.size)) → PE (NdefX.ncx (L2.CX P w) P w K mg base N (L.nf c') f A outer s H E) L.body tb) (ht : tb (NdefX.startF N (bs.map fun _ => V.int 0) ws) H Q) :
    codeAny (model P w) A (.call (.ref f) ⟨[], []⟩) (CR (L2.CX P w) outer P w H s Q E) s := by
  refine PySem.W.kla_callFunE hr.depth of1 rfl S.co S.gen rfl hcode (hb _ _ _ _ ?_)
  have hnc : ∀ y ∈ L.scope.names, y.2 ≠ .cell := S.nocell
  refine wpAny_newFunctionEnv hnc (fun y hy => S.par _ (List.of_mem_zip hy).1) (fun h1 hns hsb => ⟨(e0.mod.nolimit.keeps fun b o e => (e0.bs b o e).1).fresh _ hsb, ?_⟩) S.kind
  have kp : ∀ b o, s.heap.get? b = some o → h1.get? b = some o := fun b o e => hsb.extBut b o (Nat.ne_of_lt (Heap.lt_size e)) (Heap.get?_push_of_some _ e)
  have J := NdefX.inv_startN (CX := L2.CX P w) (E := E) (f := f) (F := L.nf c') (tk := s.toks + (bs.zip us).length) S hr.hd e0 (by simp) rv C hns kp
  show codeAny (model P w) A (.expr L.body (NdefX.envF (L.nf c') f s.heap.objs.size)) _ _
  refine PySem.W.kla_codeExpr (wpAny_mono ((hbody (hr.deeper _)).run [] _ _ H Q J ht) (fun v s' hq => ?_) fun e s' hq => hq)
  obtain ⟨v', H', J', rv', q⟩ := hq
  exact ⟨v', H', J'.os, J'.bare, J'.base, J'.hok, rv', q⟩
end
section
variable {Z : Cx}
/-- x(), x a slot that holds a lambda, at the very start of the def: nothing has been written since -/
theorem lam_act {N bs fr : List Str} {L : LamD} {f c' : Addr} {k i : Nat} {a : Str} {W : WX} {ws : List (Option V)} {tb : XK → TE} {p1 p2 : Pos} (tk : L2.Takes Z W) (hr : Room (k + 1) Z.A) (hB : LamB L bs) (S : NdefX.NScope N bs fr L.scope)
    (hl : IsLam Z.H_0 L f c') (hC : NdefX.CellsAt L.clo fr ws Z.s_0.heap Z.H_0) (nf : ∀ y c, L.clo.lookup y = some c → c ∉ Z.fs) (nx : ∀ y c, L.clo.lookup y = some c → c ∉ Z.ex)
    (hbody : ∀ (A : Around) (outer : List PySem.Env) (s : Shared) (H : Hp) (E : XK), Room k (A.deeper (NdefX.envF (L.nf c') f s.heap.objs.size)) → PE (NdefX.ncx (L2.CX Z.prog Z.w) Z.prog Z.w Z.K Z.mg Z.base N (L.nf c') f A outer s H E) L.body (tb E))
    (hN : Z.N[i]? = some a) (hv : Vis Z.env.scope a) (hd : (a == ("__debug__" : Str)) = false := by decide) (hcd : (a == ("__classdict__" : Str)) = false := by decide) :
    PE Z (.Call (.Name a p1) [] [] p2) (fun σZ HZ Q => σZ[i]? = some (some (.ref f)) ∧ HZ = Z.H_0 ∧ tb (WE W σZ) (NdefX.startF N (bs.map fun _ => V.int 0) ws) HZ Q) := ⟨fun pins s σZ HZ Q I ⟨hs, eH, ht⟩ => by
  subst eH
  refine wpAny_Call_Name_kw (thn ((pe_var (pos := p1) (i := i) hN hv hd hcd).run pins s σZ Z.H_0 (fun v H1 => v = .ref f ∧ H1 = Z.H_0) I ⟨.ref f, hs, rfl, rfl⟩) fun u s1 ⟨v, H1, I1, r1, ev, eH⟩ => ?_)
  subst ev
  subst eH
  obtain rfl : u = Value.ref f := r1
  obtain ⟨dV, doc, pm, ctv, us, of1, rv, hb⟩ := hl.binds I1 hB
  have C1 := hC.later nf nx I1
  refine PySem.W.callWith_F0 ⟨_, _, _, _, of1⟩ (wpAny_call (codeAny_mono (lam_run of1 (NdefX.codeO_at I1.hok hl.c) rv hb S C1 I1.env0 hr (fun h => hbody _ _ _ _ (WE W σZ) h) ht) fun rr s2 hq => ?_))
  cases rr with
  | error e => exact passAt tk σZ pins Z.H_0 s1 e s2 I1 hq
  | ok fl =>
    cases fl with
    | ret u => exact I1.after hq
    | next => exact False.elim hq
    | brk => exact False.elim hq
    | cont => exact False.elim hq⟩
end
end Dl
set_option autoImplicit true
/-! The data layer: the def that calls a lambda and tells what it raised. -/
namespace Dl
open PySem PySem.Spec PyProof.Rows L2 TL LamX NdefX

/-- what is told of a lambda: its names, how many of them have a default 0, the maker's slots that it captured, what it comes to -/
structure LamT where
  N : List Str
  b : Nat
  js : List Nat
  f : SE
/-- captured values -/
def capE : List Nat → Env → Option (List D)
  | [], _ => some []
  | j :: js, r => match r[j]?, capE js r with
    | some (some (.val d)), some ds => some (d :: ds)
    | _, _ => none
def lamE (t : LamT) (ds : List D) : Env := startE t.N (List.replicate t.b (.int 0) ++ ds)
noncomputable section
open Classical in
/-- what is told of a lambda that is handed to the def: LT, what the lambdas come to; KD, what is told of a raised class -/
def toldR [LamC] (LT : Nat → Option LamT) (KD : Nat → D → Option D) (r : Env) (d : D) (m1 : Sto) : R D := match d with
  | .fn k L => if L = LamC.L k then (match LT k with
    | some t => (match capE t.js r with
      | some ds => (match t.f (lamE t ds) m1 with
        | .ok _ m2 => .ok (.tup [.str [], .int 0]) m2
        | .exc c v m2 => (match KD c v with
          | some d' => .ok d' m2
          | none => .bad)
        | .bad => .bad)
      | none => .bad)
    | none => .bad) else .bad
  | _ => .bad
def sKind [LamC] (LT : Nat → Option LamT) (KD : Nat → D → Option D) (fa : SE) : SE := fun r m => bindR (fa r m) fun d m1 => toldR LT KD r d m1
end
/-- the held error as the suite has it -/
def heldD (e : Addr) (f : Str) : Option Addr → D → D
  | some dd, .int i => .erx e dd f i
  | _, _ => .cst (.ref e)
/-- how its value and its dict go together -/
def HeldV (v : D) (d : Option Addr) : Prop := (v = .own [] [] ∧ d = none) ∨ ∃ i dd, v = .int i ∧ d = some dd
/-- the def itself: its text, its errors' classes, its handler's telling -/
structure KindIs (P : Program) (w : World) (K : PySem.W.Frag) (mg : Str → Option Value) (t : Tf) (x a : Str) (st : Stmt) (Ng : List Str) (KD : Nat → D → Option D) : Prop where
  df : DefIs K mg x st
  hb : BindsOk st x [a]
  Sg : FnScope Ng [a] (defScope st)
  N0 : Ng[0]? = some a
  N3 : Ng.length = 3
  va : Vis (defScope st) a
  da : (a == ("__debug__" : Str)) = false
  ca : (a == ("__classdict__" : Str)) = false
  body : ∃ (ce en : Str) (b₀ : Stmt) (suite : List Stmt) (CS : Addr) (p1 p2 p3 p4 p5 p6 p7 p8 p9 p10 : Pos) (j1 j2 j3 : Nat) (bk : Addr → Nat → Option Addr → SS), Ng[1]? = some en ∧ (defScope st).names.lookup en = some .local ∧
    defBody st = [.Try [.Expr (.Call (.Name a p1) [] [] p2) p3] [.ExceptHandler (some (.Name ce p4)) (some en) (b₀ :: suite) p5] [] [] p6, .Return (some (.Tuple [.Constant (.str "") j1 p7, .Constant (.int 0) j2 p8] j3 p9)) p10] ∧
    (defScope st).names.lookup ce = some .globalImplicit ∧ mg ce = some (.ref CS) ∧ (ce == ("__debug__" : Str)) = false ∧ (∀ c v d', KD c v = some d' → (v = .own [] [] ∨ ∃ i, v = .int i) ∧ PySem.W.exmOne K (.ref (t.T c)) (.ref CS) = some true) ∧
    (∀ (base : Heap) (f : Addr) (cdv : Value) (A : Around) (outer : List PySem.Env) (s : Shared) (H : Hp) (e : Addr) (oe : Obj) (pn : List (Addr × Obj)) (c : Nat) (v d' : D) (d : Option Addr), KD c v = some d' → HeldV v d → Zc (.ref (t.T c)) d oe → (∃ vs, oe.data = .fields vs) → Room 0 (A.deeper (envOfC x (defScope st) s.heap.objs.size f cdv)) →
      DSs ((cxOf (L2.CX P w) P w K mg base Ng x (defScope st) f cdv A outer s H (fun _ _ _ => False)).suite e ((e, oe) :: pn)) ⟨t.T, t.fld, fun _ _ _ _ => False⟩ (b₀ :: suite) (bk e c d)) ∧
    ∀ c v d' d, KD c v = some d' → HeldV v d → ∀ e x m, bk e c d (startE Ng [x, heldD e (t.fld c) d v]) m = .rt d' m
/-- a lambda of the maker's text, as it may be called -/
structure LamOk (P : Program) (w : World) (K : PySem.W.Frag) (mg : Str → Option Value) (t : Tf) (lev : Nat) (L : LamD) (fr : List Str) (q : LamT) : Prop where
  ok : ∃ bs : List Str, bs.length = q.b ∧ LamB L bs ∧ NScope q.N bs fr L.scope ∧ q.N.length = q.b + q.js.length ∧
    ∀ (base : Heap) (f c' : Addr) (A : Around) (outer : List PySem.Env) (s : Shared) (H : Hp) (E : XK), Room lev (A.deeper (envF (L.nf c') f s.heap.objs.size)) → DE (ncx (L2.CX P w) P w K mg base q.N (L.nf c') f A outer s H E) ⟨t.T, t.fld, fun cls d _ H => E cls d H⟩ L.body q.f
section
variable {Y : Cx} {w : Wi}
theorem cap_reps {F : Hp} {io : List Addr} {pw : PWd} {x : Sx pw} {r : Env} {m : Sto} {σ : L2.St} {H : Hp} (R : Rel x r m σ H) : ∀ {js : List Nat} {ds : List D}, capE js r = some ds → ∃ vs, Reps x.F x.io ds vs ∧ js.map (slotAt σ) = vs.map some
  | [], _, e => by
    cases e
    exact ⟨[], .nil, rfl⟩
  | j :: js, ds, e => by
    unfold capE at e
    split at e
    · rename_i d ds' h1 h2
      cases e
      obtain ⟨vs, q1, q2⟩ := cap_reps (F := F) (io := io) R h2
      obtain ⟨v, A0, g1, g2, _⟩ := slot_at R h1
      cases g2 with
      | val rp => exact ⟨v :: vs, .cons rp q1, by rw [List.map_cons, List.map_cons, slotAt_of g1, q2]⟩
    · cases e
theorem start_cat {N : List Str} {vs us : List V} (h : N.length = vs.length + us.length) : startF N vs (us.map some) = L2.start N (vs ++ us) := by
  unfold startF L2.start
  rw [List.map_append, List.length_append, List.length_map, h, List.append_assoc]
  congr 2
  congr 1
  omega
theorem reps_zero {F : Hp} {io : List Addr} : ∀ n : Nat, Reps F io (List.replicate n (.int 0)) (List.replicate n (V.int 0))
  | 0 => .nil
  | n + 1 => .cons (.int 0) (reps_zero n)
/-- the call, in whatever context -/
theorem kind_call [C : LamC] {t : Tf} {x a : Str} {st : Stmt} {Ng fr : List Str} {KD : Nat → D → Option D} {LT : Nat → Option LamT} {lev k : Nat} {L : LamD} {q : LamT} {g : Addr} {fd : FuncData} {pins : List (Addr × Obj)} {σ : L2.St} {H1 : Hp} {s1 : Shared} {y : Sx (pwOf Y)} {r : Env} {m1 : Sto} {u : Value} {v : V} {ds : List D} {Q : VK}
    (ht : t = w.tf) (KI : KindIs Y.prog Y.w Y.K Y.mg t x a st Ng KD) (F : Fun Y.K x x st g fd) (hr : Room (lev + 2) Y.A) (I1 : Inv Y pins σ H1 s1) (R1 : Rel y r m1 σ H1) (p1 : Rep y.F y.io (.fn k L) v) (rv : RelV v u)
    (hL : LamOk Y.prog Y.w Y.K Y.mg t lev L fr q) (hcap : capE q.js r = some ds) (hC : CellsAt L.clo fr (q.js.map (slotAt σ)) s1.heap H1) (hnf : ∀ y c, L.clo.lookup y = some c → c ∉ frs Y.stack)
    (h : Fin (PV (pw := pwOf Y)) w y r σ H1 Q (match q.f (lamE q ds) m1 with
        | .ok _ m2 => .ok (.tup [.str [], .int 0]) m2
        | .exc c v m2 => (match KD c v with
          | some d' => .ok d' m2
          | none => .bad)
        | .bad => .bad)) : wpAny (model Y.prog Y.w) Y.A (call (.ref g) [u]) (EP Y pins σ Q) Y.xe s1 := by
  obtain ⟨oc, od, kV, doc, pm, an, cdv, ct, osl, rfl, lk, hcd⟩ := F.ex
  obtain ⟨ce, en, b₀, suite, CS, p1', p2, p3, p4, p5, p6, p7, p8, p9, p10, j1, j2, j3, bk, hN1, hen, hbody, hce, hmc, hdc, hex, hsu, hkd⟩ := KI.body
  obtain ⟨bs, hbl, hB, S, hNl, hbd⟩ := hL.ok
  cases p1 with
  | @fn _ _ f c' dV hf hc hdV =>
  obtain rfl : u = Value.ref f := rv
  have hl : IsLam H1 L f c' := ⟨R1.sub _ _ hc, dV, R1.sub _ _ hf, hdV.imp (fun z => z) fun ⟨h0, t, e1, e2⟩ => ⟨h0, t, e1, R1.sub _ _ e2⟩⟩
  obtain ⟨vs, rp, ews⟩ := cap_reps (F := y.F) (io := y.io) R1 hcap
  rw [ews] at hC
  have bT := KI.hb kV doc pm an cdv ct [.ref f] rfl
  have back : ∀ {z : Sx (pwOf Y)} {r' : Env} {m' : Sto} {s' : L2.St} {H' : Hp}, Rel z r' m' s' H' → StE (y.w1 []) H1 z H' → Rel (z.w1 y.A1) r m' σ H' ∧ StE y H1 (z.w1 y.A1) H' := fun Rz stz => R1.back ⟨stz.st.F, stz.st.io, stz.st.keep, stz.st.there, stz.st.newF, stz.st.newA⟩ Rz
  have rc : codeAny (model Y.prog Y.w) Y.A (.call (.ref g) ⟨[.ref f], []⟩) (CR (L2.CX Y.prog Y.w) Y.stack Y.prog Y.w H1 s1 Q (fun _ _ _ => False)) s1 := by
    refine run_ofS (N := Ng) (ps := [a]) (us := [.ref f]) (vs := [.ref f]) lk hcd KI.Sg hr I1.env0 (BindsTo.of_eq bT) (.cons rfl .nil) rfl fun hr' => ?_
    rw [hbody]
    refine ⟨_, pss_cons (L2.ps_try_as (i := 1) (c := .ref CS) (Wout := fun _ _ _ _ => False)
        (tb := fun W D' σZ HZ => σZ[0]? = some (some (.ref f)) ∧ HZ = H1 ∧ rd (PV (pw := pwOf Y)) ⟨w.T, w.fld, fun cls d _ H => WE W σZ cls d H⟩ q.f (startF q.N (bs.map fun _ => V.int 0) (vs.map some)) HZ (fun _ H' => D'.nx σZ H'))
        (ts := fun e cls d D' σZ HZ => ∃ c v d', KD c v = some d' ∧ HeldV v d ∧ cls = .ref (w.T c) ∧ rdS (pwOf Y) ⟨w.T, w.fld, fun _ _ _ _ => False⟩ (bk e c d) D' σZ HZ)
        rfl rfl KI.Sg.nd hN1 hen ⟨hce, hdc, .inl hmc⟩ L2.takes0 (fun W pn xe tk _ => ?_) (fun e oe cls d pn hz hv => ?_)) (pss_one (ps_ret (pe_tup (pa_cons pe_str (pa_cons pe_int pa_nil))))), ?_⟩
    · exact pss_one (ps_expr (lam_act (i := 0) (tb := fun E σ H Q => rd (PV (pw := pwOf Y)) ⟨w.T, w.fld, fun cls d _ H => E cls d H⟩ q.f σ H Q) tk hr' hB S hl hC hnf (fun _ _ _ z => by cases z) (fun A outer s H E h => by
          subst ht
          exact hbd _ f c' A outer s H E h) KI.N0 KI.va KI.da KI.ca))
    · refine ⟨fun pinsZ sZ σZ HZ DZ IZ ⟨c, v, d', z1, z2, z3, z4⟩ => ?_⟩
      subst z3 ht
      exact (hsu Y.base g cdv Y.A Y.stack s1 H1 e oe pn c v d' d z1 z2 hz hv (hr'.mono (Nat.zero_le _))).run pinsZ sZ σZ HZ DZ IZ z4
    · have e0 : L2.start Ng [.ref f] = [some (.ref f), none, none] := by
        unfold L2.start
        rw [KI.N3]
        rfl
      have e1 : (bs.map fun _ => V.int 0) = List.replicate q.b (V.int 0) := by rw [List.map_const', hbl]
      have hvl : vs.length = q.js.length := by
        have := congrArg List.length ews
        simpa using this.symm
      have e2 : startF q.N (bs.map fun _ => V.int 0) (vs.map some) = L2.start q.N (List.replicate q.b (V.int 0) ++ vs) := by
        rw [start_cat (by rw [hNl, List.length_map, hbl, hvl]), e1]
      rw [e0]
      refine ⟨rfl, rfl, ?_⟩
      rw [e2]
      refine ⟨y.w1 [], lamE q ds, m1, R1.leave.start ((reps_zero q.b).append rp), ?_⟩
      cases eT : q.f (lamE q ds) m1 with
      | bad =>
        rw [eT] at h
        exact h.elim
      | ok dd m2 =>
        rw [eT] at h
        intro v z H' Rz _ stz
        obtain ⟨Rb, stb⟩ := back Rz stz
        refine ⟨by rw [sizeLine_eq]; exact Nat.le_of_ble_eq_true rfl, fun pt hpt => ?_⟩
        exact h (.ref pt) _ _ (Rb.new (o := .tup [.str "", .int 0]) hpt) (.tup upd_same (.cons (.str []) (.cons (.int 0) .nil))) (stb.trans (StE.new (o := .tup [.str "", .int 0]) Rb hpt))
      | exc c vv m2 =>
        rw [eT] at h
        dsimp only at h
        cases eK : KD c vv with
        | none =>
          rw [eK] at h
          exact h.elim
        | some d' =>
          rw [eK] at h
          intro cls d z H' Rz ex stz
          obtain ⟨e1, e2⟩ := ex
          obtain ⟨kv, km⟩ := hex c vv d' eK
          have hh : HeldV vv d ∧ ∀ e : Addr, Rep z.F z.io (heldD e (w.fld c) d vv) (.ref e) := by
            rcases e2 with ⟨e2, e3⟩ | ⟨a, u, e3, e4, e5⟩
            · subst e2 e3
              exact ⟨.inl ⟨rfl, rfl⟩, fun e => .cst _⟩
            · subst e3
              rcases kv with kv | ⟨i, kv⟩
              · subst kv
                cases e5
              · subst kv
                cases e5
                exact ⟨.inr ⟨i, a, rfl, rfl⟩, fun e => .erx e4⟩
          obtain ⟨hh, hrep⟩ := hh
          subst e1
          obtain ⟨Rb, stb⟩ := back Rz stz
          refine ⟨true, by subst ht; exact km, fun _ e he => ⟨c, vv, d', eK, hh, rfl, ?_⟩, fun z => nomatch z⟩
          have e3 : ([some (V.ref f), none, none] : L2.St).set 1 (some (.ref e)) = L2.start Ng [.ref f, .ref e] := by
            unfold L2.start
            rw [KI.N3]
            rfl
          rw [e3]
          refine ⟨(z.w1 y.A1).w1 [], startE Ng [.fn k L, heldD e (w.fld c) d vv], m2, Rb.leave.start (.cons (.fn (stz.st.F _ _ hf) (stz.st.F _ _ hc) (hdV.imp (fun z => z) fun ⟨h0, t, e1, e2⟩ => ⟨h0, t, e1, stz.st.F _ _ e2⟩)) (.cons (hrep e) .nil)), ?_⟩
          have hbk := hkd c vv d' d eK hh e (.fn k L) m2
          subst ht
          rw [hbk]
          intro v y2 H2 Ry p2 st2
          obtain ⟨R3, st4⟩ := Rb.back ⟨st2.st.F, st2.st.io, fun b o h hb => st2.st.keep b o h (by simpa using hb), st2.st.there, fun b h1 h2 => (st2.st.newF b h1 h2).imp (fun z => z) fun z => by simpa using z, st2.st.newA⟩ Ry
          exact h v _ H2 R3 p2 (stb.trans st4)
  refine wpAny_call (codeAny_mono rc fun rr s2 hq => ?_)
  cases rr with
  | error e =>
    exfalso
    have hq : L2.CX Y.prog Y.w Y.stack H1 s1 (fun _ _ _ => False) e s2 := hq
    obtain ⟨_, _, _, _, _, _, _, _, _, _, _, _, z⟩ := hq
    exact z
  | ok fl =>
    cases fl with
    | ret u => exact I1.after hq
    | next => exact False.elim hq
    | brk => exact False.elim hq
    | cont => exact False.elim hq
end
end Dl
set_option autoImplicit true
/-! The data layer: a list made of what each of some lambdas comes to. -/
namespace Dl
open PySem PySem.Spec PyProof.Rows L2 TL LamX NdefX

section
variable {X : Cx}
/-- [elt for y in iter], the element told where the maker's own state at the block's start is known -/
theorem lc_outU {pins : List (Addr × Obj)} {s : Shared} {σ : L2.St} {H : Hp} {Q : VK} {elt iter : Expr} {y : Str} {yp : Pos} {pos pos' : Pos} {scope : Scope} {k : Nat} {wi : TI} {g : TG} {tt : TT} {te : TE} {use : Option (Value → Sem Unit)} {Qf : Value → Shared → Prop} (hc : X.calm = true) (hN : X.N.Nodup) (I : Inv X pins σ H s) (hi : PI X (.Name y yp) iter wi) (ok : BlkOk X.N X.env.scope scope [(y, k)])
    (hg : ∀ (s : Shared) (H : Hp) (C : Addr) (cl : List (Str × Addr)) (fp : List Addr), PG (X.blk s H scope (compEnvC scope cl C X.env) fp) (.Name y yp) g) (htt : ∀ σ H (Q : Bool → Hp → Prop), tt σ H Q → Q true H)
    (he : ∀ (s : Shared) (H : Hp) (C : Addr) (cl : List (Str × Addr)) (fp : List Addr), Inv X pins σ H s → (∀ b ∈ fp, FpOk X pins H b) → PE (X.blk s H scope (compEnvC scope cl C X.env) fp) elt te)
    (hs : ∀ x, foldedSetIterable iter X.env x = pure x) (h : tLc wi g tt te [k] σ H Q)
    (hRR : ∀ D C s' m H', Inv X pins σ H' s' → Q (.ref D) H' → s'.heap.Ns C m → FpOk X pins H' C → compPost (model X.prog X.w) X.A X.xe use Qf (.ref D) C (.ok .next) s') :
    wpAny (model X.prog X.w) X.A (comprehension (.ListComp elt [⟨.Name y yp, iter, [], 0⟩] scope pos) scope X.env pos' (newList []) false (eval iter X.env) use) Qf X.xe s := by
  have caught : ∀ z ∈ scope.names, z.2 = .free → ∃ c, X.env.cells.lookup z.1 = some c := fun z hz e => (ok.free z hz e).elim (fun q => I.ok.has _ (.inl q)) fun q => I.ok.has _ (.inr q)
  refine wpAny_comprehension_free (use := use) rfl hs (closure_ok caught) ok.kind (fun z hz e => by rw [ok.uniq z hz, e]) (wpAny_mono (hi.run pins s σ H _ I h) (fun iv s1 q1 => wpAny_mono q1 (fun jv s2 q2 => ?_) fun _ _ z => z) fun _ _ z => z)
  obtain ⟨it, fp, tn, J, Ha, rfl, Ia, T, ta, fa, q⟩ := q2
  refine wpAny_newObj_type (newEnv_comp ?_) (by show 0 ≤ sizeLine; decide)
  have nD : Ha s2.heap.objs.size = none := Ia.hok.fresh (Nat.le_refl _)
  obtain ⟨W, ⟨m0, w0⟩, turn⟩ := q s2.heap.objs.size nD
  -- the list stands
  have Ib := Ia.laid (t' := s2.toks) (h' := s2.heap.push { cls := .type "list", data := .seq ([] : List Value).toArray }) (o := .lst []) (fun b o e => Heap.get?_push_of_some _ e) (Nat.le_refl _) ⟨Nat.zero_le _, [], 0, .nil, Heap.get?_push_size _ rfl⟩
  have small : ∀ b ∈ fp, b < s2.heap.objs.size := fun b hb => (T.obj _ _ ta b hb).elim fun o e => Heap.lt_size e.1
  have fb : ∀ b ∈ fp, FpOk X pins (upd Ha s2.heap.objs.size (.lst [])) b ∧ b < (s2.heap.push { cls := .type "list", data := .seq ([] : List Value).toArray }).objs.size := fun b hb =>
    ⟨⟨by rw [upd_ne (Nat.ne_of_lt (small b hb))]; exact (fa b hb).1, (fa b hb).2⟩, by rw [Heap.size_push]; exact Nat.lt_succ_of_lt (small b hb)⟩
  generalize eS : ({ s2 with heap := s2.heap.push { cls := .type "list", data := .seq ([] : List Value).toArray } } : Shared) = sb at Ib
  have eH : sb.heap = s2.heap.push { cls := .type "list", data := .seq ([] : List Value).toArray } := by rw [← eS]
  rw [← eH] at fb
  have tb : tn 0 sb.heap := T.keep _ _ _ ta fun b _ o e => by rw [eH]; exact Heap.get?_push_of_some _ e
  generalize eHb : upd Ha s2.heap.objs.size (.lst []) = Hb at Ib fb w0
  generalize eD : s2.heap.objs.size = D at *
  have Ic := block_start Ib ok hN fb
  have gC := hg sb Hb sb.heap.objs.size (cellsFrom (sb.heap.objs.size + 1) scope.names (cloFrom X.env.cells scope.names [])) fp
  have eC := he sb Hb sb.heap.objs.size (cellsFrom (sb.heap.objs.size + 1) scope.names (cloFrom X.env.cells scope.names [])) fp Ib fun b hb => (fb b hb).1
  show codeAny _ _ (.compStart (.ListComp elt [⟨.Name y yp, iter, [], 0⟩] scope pos) 0 (.ref it) (.ref D) (compEnvC scope (cellsFrom (sb.heap.objs.size + 1) scope.names (cloFrom X.env.cells scope.names [])) sb.heap.objs.size X.env)) (compPost (model X.prog X.w) X.A X.xe use _ (.ref D) sb.heap.objs.size) { sb with heap := pushCells (sb.heap.push { cls := .type "dict", data := .dict #[] }) scope.names }
  have free : ∀ b ∈ fp, Hb b = none := fun b hb => (fb b hb).1.1
  have tc : tn 0 (pushCells (sb.heap.push { cls := .type "dict", data := .dict #[] }) scope.names) := T.keep _ _ _ tb fun b _ o e => pushCells_keeps _ _ _ _ (Heap.get?_push_of_some _ e)
  generalize eE : compEnvC scope (cellsFrom (sb.heap.objs.size + 1) scope.names (cloFrom X.env.cells scope.names [])) sb.heap.objs.size X.env = ce at Ic gC eC ⊢
  have lE : ce.locals = sb.heap.objs.size := by rw [← eE]; rfl
  generalize eT : ({ sb with heap := pushCells (sb.heap.push { cls := .type "dict", data := .dict #[] }) scope.names } : Shared) = sc at Ic ⊢
  have tc : tn 0 sc.heap := by rw [← eT]; exact tc
  have look : ∀ {σ' : L2.St} {H' : Hp} {s' : Shared}, Inv (X.blk sb Hb scope ce fp) [] σ' H' s' → (∀ b ∈ fp, H' b = none) → ∀ b ∈ fp, FpOk (X.blk sb Hb scope ce fp) [] H' b := fun {σ' H' s'} J1 n b hb =>
    ⟨n b hb, (J1.ok.exf b hb).1, J1.ok.exfs b hb, .inl hb, fun z c e => (J1.ok.exf b hb).2 z c e, fun p hp => by simp at hp⟩
  have go : codeAny (model X.prog X.w) X.A (.compLoop (.ListComp elt [⟨.Name y yp, iter, [], 0⟩] scope pos) 0 (.ref it) (.ref D) ce) (compPost (model X.prog X.w) X.A X.xe use Qf (.ref D) sb.heap.objs.size) sc := by
    refine compLoop_any (fun n z => ∃ i Hz, Inv (X.blk sb Hb scope ce fp) [] (wipe σ [k]) Hz z ∧ tn i z.heap ∧ (∀ b ∈ fp, Hz b = none) ∧ W i n Hz) (fun n z hz => ?_) m0 ⟨0, Hb, Ic, tc, free, w0⟩
    obtain ⟨i, Hz, Jz, tz, nz, wz⟩ := hz
    rcases turn i n Hz wz with ⟨stop, qq⟩ | ⟨on, Nx, hNx, step⟩
    · refine thnF (T.done (X.blk sb Hb scope ce fp) rfl rfl rfl hc i [] z _ Hz (fun _ _ => False) Jz (look Jz nz) tz stop) fun r s6 ⟨hr, J6⟩ => ?_
      subst hr
      have I7 : Inv X pins σ Hz s6 := Ib.call' (ch := fp) J6.os J6.base J6.hok J6.bare fun b hb => ⟨(fb b hb).1.2.2.2.1, (fb b hb).1.2.1, (fb b hb).1.2.2.2.2.1, (fb b hb).1.2.2.2.2.2⟩
      have nC : Hz sb.heap.objs.size = none := by rw [← lE]; exact J6.free
      obtain ⟨mm, hn, _⟩ := J6.loc
      exact hRR D sb.heap.objs.size s6 mm Hz I7 qq (by rw [← lE]; exact hn) (Ib.fpOk (H' := Hz) (Nat.le_refl sb.heap.objs.size) nC)
    · refine thnF (T.item (X.blk sb Hb scope ce fp) rfl rfl rfl hc i [] z _ Hz (fun _ _ => False) Jz (look Jz nz) tz on) fun r s6 ⟨u, hr, q6⟩ => ?_
      subst hr
      refine thnF q6 fun _ s7 ⟨x, H7, J7, r7, y7, t7, n7⟩ => ?_
      have J8 := J7.pinned (look J7 n7) (T.obj _ _ t7)
      refine thnF (gC.run _ s7 _ H7 x u _ J8 r7 (step x H7 y7)) fun _ s8 ⟨σ8, H8, J9, w8, q8⟩ => ?_
      refine wpAny_pure ?_
      have q8 := htt _ _ _ q8
      simp only [if_true] at q8 ⊢
      refine thnF (eC.run _ s8 σ8 H8 _ J9 q8) fun v s9 ⟨yv, H10, J10, r10, acc, hD, hz, nx⟩ => ?_
      refine app_ok (X := X.blk sb Hb scope ce fp) J10 hD hz r10 fun s11 J11 => ?_
      obtain ⟨m', hm, w'⟩ := hNx _ nx
      have pin' : ∀ b ∈ fp, ∀ o, s7.heap.get? b = some o → s11.heap.get? b = some o ∧ upd H10 D (.lst (acc ++ [yv])) b = none := fun b hb o e => by
        have p := J11.pin (b, o) (List.mem_append_right _ (List.mem_append_right _ (mem_pinsAt hb e)))
        exact ⟨p.1, p.2.1⟩
      refine ⟨m', hm, i + 1, _, (J11.unpinned (pins := [])).weak (by rw [← w8, wipe_length]) (fun j v e => ?_), T.keep _ _ _ t7 fun b hb o e => (pin' b hb o e).1, fun b hb => ?_, w'⟩
      · rw [← w8] at e
        exact (wipe_some e).1
      · obtain ⟨o, e, _⟩ := T.obj _ _ t7 b hb
        exact (pin' b hb o e).2
  exact codeAny_compStart_list go (T.self X.A 0 _ _ _ tc go)
/-- as a value -/
theorem lc_out {pins : List (Addr × Obj)} {s : Shared} {σ : L2.St} {H : Hp} {Q : VK} {elt iter : Expr} {y : Str} {yp pos : Pos} {scope : Scope} {k : Nat} {wi : TI} {g : TG} {tt : TT} {te : TE} (hc : X.calm = true) (hN : X.N.Nodup) (I : Inv X pins σ H s) (hi : PI X (.Name y yp) iter wi) (ok : BlkOk X.N X.env.scope scope [(y, k)])
    (hg : ∀ (s : Shared) (H : Hp) (C : Addr) (cl : List (Str × Addr)) (fp : List Addr), PG (X.blk s H scope (compEnvC scope cl C X.env) fp) (.Name y yp) g) (htt : ∀ σ H (Q : Bool → Hp → Prop), tt σ H Q → Q true H)
    (he : ∀ (s : Shared) (H : Hp) (C : Addr) (cl : List (Str × Addr)) (fp : List Addr), Inv X pins σ H s → (∀ b ∈ fp, FpOk X pins H b) → PE (X.blk s H scope (compEnvC scope cl C X.env) fp) elt te)
    (hs : ∀ x, foldedSetIterable iter X.env x = pure x) (h : tLc wi g tt te [k] σ H Q) : wpAny (model X.prog X.w) X.A (eval (.ListComp elt [⟨.Name y yp, iter, [], 0⟩] scope pos) X.env) (EP X pins σ Q) X.xe s := by
  rw [eval_ListComp]
  refine lc_outU hc hN I hi ok hg htt he hs h fun D C s' m H' I' q hn f => ⟨m, hn, fun h'' same => ?_⟩
  obtain ⟨f0, f1, f2, f3, f4, f5⟩ := f
  exact ⟨.ref D, H', I'.turned (t' := s'.toks) (fun b o hb e => (same.2 b hb).trans e) f0 f1 f3 f4 f5, rfl, q⟩
/-- as a local's value -/
theorem lc_outSet {pins : List (Addr × Obj)} {s : Shared} {σ : L2.St} {H : Hp} {D : L2.Ends} {elt iter : Expr} {y z : Str} {yp zp pos spos : Pos} {scope : Scope} {k i : Nat} {wi : TI} {g : TG} {tt : TT} {te : TE} (hc : X.calm = true) (hN : X.N.Nodup) (hy : X.N[i]? = some z) (hyl : X.env.scope.names.lookup z = some .local)
    (hsw : swapsWith (.ListComp elt [⟨.Name y yp, iter, [], 0⟩] scope pos) (some (.Name z zp)) spos.line X.env = pure true) (I : Inv X pins σ H s) (hi : PI X (.Name y yp) iter wi) (ok : BlkOk X.N X.env.scope scope [(y, k)])
    (hg : ∀ (s : Shared) (H : Hp) (C : Addr) (cl : List (Str × Addr)) (fp : List Addr), PG (X.blk s H scope (compEnvC scope cl C X.env) fp) (.Name y yp) g) (htt : ∀ σ H (Q : Bool → Hp → Prop), tt σ H Q → Q true H)
    (he : ∀ (s : Shared) (H : Hp) (C : Addr) (cl : List (Str × Addr)) (fp : List Addr), Inv X pins σ H s → (∀ b ∈ fp, FpOk X pins H b) → PE (X.blk s H scope (compEnvC scope cl C X.env) fp) elt te)
    (hs : ∀ x, foldedSetIterable iter X.env x = pure x) (h : tLc wi g tt te [k] σ H (fun v H1 => L2.gName i v σ H1 D.nx)) : wpAny (model X.prog X.w) X.A (exec (.Assign [.Name z zp] (.ListComp elt [⟨.Name y yp, iter, [], 0⟩] scope pos) spos) X.env) (SP X pins D) X.xe s := by
  rw [exec_Assign_Name_used _ _ _ _ hsw]
  refine wpAny_bind (wpAny_standAt (wpAny_bind ?_))
  show wpAny _ X.A (do let _ ← comprehension (.ListComp elt [⟨.Name y yp, iter, [], 0⟩] scope pos) scope X.env (firstIterPos [⟨.Name y yp, iter, [], 0⟩] pos) (newList []) false (eval iter X.env) (some (assign (.Name z zp) X.env))) _ _ s
  refine wpAny_bind (thn (lc_outU (Qf := fun _ s' => SP X pins D .next s') hc hN I hi ok hg htt he hs h fun L C s' m H' I' q hn f => ?_) fun _ s' hq => wpAny_pure (wpAny_pure hq))
  show wpAny _ _ (assign (.Name z zp) X.env (.ref L)) _ _ _
  refine wpAny_assign_Name (store_ok2 (v := V.ref L) I' hN hy (.inl hyl) rfl (fun s2 I2 ⟨a, sb, ha⟩ => ?_) (.inr hyl))
  obtain ⟨f0, f1, f2, f3, f4, f5⟩ := f
  have haC : C ≠ a := by
    rcases ha with q | q
    · rw [q]; exact f1
    · exact fun e => f4 z a q e.symm
  exact ⟨m, hn.sameBut sb haC, fun h3 sb3 => ⟨_, H', I2.turned (t' := s2.toks) (fun b o hb e => (sb3.2 b hb).trans e) f0 f1 f3 f4 f5, q⟩⟩
end
end Dl
set_option autoImplicit true
/-! The data layer: the telling def called, by itself and for each of a list. -/
namespace Dl
open PySem PySem.Spec PyProof.Rows L2 TL LamX NdefX

/-- the lambdas of the def that is walked -/
structure LamsOk (X : Cx) (t : Tf) [C : LamC] (lev : Nat) (LT : Nat → Option LamT) : Prop where
  fn : ∀ y, X.fn y = true
  ok : ∀ k q, LT k = some q → ∃ (params : Arguments) (body : Expr) (scope : Scope) (fr : List Str), C.L k = ⟨params, body, scope, X.env.qual ++ "<lambda>", cloFrom X.env.cells scope.names []⟩ ∧
    LamOk X.prog X.w X.K X.mg t lev ⟨params, body, scope, X.env.qual ++ "<lambda>", cloFrom X.env.cells scope.names []⟩ fr q ∧
    (∀ y ∈ scope.names, y.2 = .free → X.env.scope.names.lookup y.1 = some .cell ∨ X.env.scope.names.lookup y.1 = some .free) ∧ (∀ y ∈ fr, (y, NameKind.free) ∈ scope.names) ∧ q.js.map (fun j => X.N[j]?) = fr.map some
theorem cells_nf {X : Cx} {pins : List (Addr × Obj)} {σ : L2.St} {H : Hp} {s : Shared} (hfn : ∀ y, X.fn y = true) (I : Inv X pins σ H s) {y : Str} {c : Addr} (e : X.env.cells.lookup y = some c) : c ∉ frs X.stack := by
  have out : c ∉ frs X.outer := fun hm => by
    obtain ⟨_, o, ho, _⟩ := I.ok.funs.mem hm
    exact Nat.lt_irrefl _ (Nat.lt_of_lt_of_le (Heap.lt_size ho) (I.ok.cab y c (hfn y) e))
  rcases I.ok.stk with h | ⟨h, hf⟩
  · rw [h]
    exact out
  · rw [h]
    intro hm
    obtain ⟨a, ha, hl⟩ := List.mem_filterMap.mp hm
    rcases List.mem_cons.mp ha with rfl | ha
    · rw [hf] at hl
      have hl : X.env.locals = c := Option.some.inj hl
      obtain ⟨m, ⟨o, es, ep, ho, hd, _⟩, _⟩ := I.loc
      obtain ⟨v, o2, ho2, hd2⟩ := I.cell y c e
      rw [hl, ho2] at ho
      cases ho
      rw [hd2] at hd
      cases hd
    · exact out (List.mem_filterMap.mpr ⟨a, ha, hl⟩)
section
variable {X : Cx} {w : Wi} [C : LamC]
/-- what is told, from a state in which the cells are known -/
theorem told_call {Y : Cx} {t : Tf} {x a : Str} {st : Stmt} {Ng : List Str} {KD : Nat → D → Option D} {LT : Nat → Option LamT} {lev : Nat} {g : Addr} {fd : FuncData} {pins : List (Addr × Obj)} {σ : L2.St} {H1 : Hp} {s1 : Shared} {y : Sx (pwOf Y)} {r : Env} {m1 : Sto} {u : Value} {v : V} {d : D} {Q : VK}
    (ht : t = w.tf) (KI : KindIs Y.prog Y.w Y.K Y.mg t x a st Ng KD) (F : Fun Y.K x x st g fd) (hr : Room (lev + 2) Y.A) (I1 : Inv Y pins σ H1 s1) (R1 : Rel y r m1 σ H1) (p1 : Rep y.F y.io d v) (rv : RelV v u)
    (hL : ∀ k q, LT k = some q → ∃ fr, LamOk Y.prog Y.w Y.K Y.mg t lev (C.L k) fr q ∧ CellsAt (C.L k).clo fr (q.js.map (slotAt σ)) s1.heap H1 ∧ ∀ y c, (C.L k).clo.lookup y = some c → c ∉ frs Y.stack)
    (h : Fin (PV (pw := pwOf Y)) w y r σ H1 Q (toldR LT KD r d m1)) : wpAny (model Y.prog Y.w) Y.A (call (.ref g) [u]) (EP Y pins σ Q) Y.xe s1 := by
  unfold toldR at h
  cases d with
  | fn k L =>
    dsimp only at h
    by_cases hk : L = C.L k
    · subst hk
      rw [if_pos rfl] at h
      cases eL : LT k with
      | none => rw [eL] at h; exact h.elim
      | some q =>
        rw [eL] at h
        dsimp only at h
        cases ec : capE q.js r with
        | none => rw [ec] at h; exact h.elim
        | some ds =>
          rw [ec] at h
          obtain ⟨fr, h1, h2, h3⟩ := hL k q eL
          exact kind_call (LT := LT) ht KI F hr I1 R1 p1 rv h1 ec h2 h3 h
    · rw [if_neg hk] at h
      exact h.elim
  | _ => exact h.elim
/-- f(e), f the telling def -/
theorem de_kind {t : Tf} {x a : Str} {st : Stmt} {Ng : List Str} {KD : Nat → D → Option D} {LT : Nat → Option LamT} {lev : Nat} {fa : SE} {arg : Expr} {p pos : Pos} (ht : t = w.tf) (KI : KindIs X.prog X.w X.K X.mg t x a st Ng KD) (hL : LamsOk X t lev LT) (hr : Room (lev + 2) X.A) (hg : Gl X x) (ha : DE X w arg fa)
    (hdb : (x == ("__debug__" : Str)) = false := by decide) (he : starEach [arg] X.env = (false, eval arg X.env) :: starEach [] X.env := by rfl) : DE X w (.Call (.Name x p) [arg] [] pos) (sKind LT KD fa) := ⟨fun pins s σ H Q I ⟨x0, r, m, R, q⟩ => by
  obtain ⟨g, fd, F, hm⟩ := KI.df.ex
  refine wpAny_Call_Name_kw (ld_glob I hg hm ?_ hdb)
  refine PySem.W.callWith_K (h₀ := X.base) I.ok.mod.kin F.kp ?_ he (by rfl)
  rw [he]
  show wpAny _ _ (spliced ((false, eval arg X.env) :: backTo pos (starEach [] X.env))) _ _ s
  have h1 : rd (PV (pw := pwOf X)) w fa σ H fun v H1 => ∃ (y : Sx (pwOf X)) (m1 : Sto) (d : Dl.D), Rel y r m1 σ H1 ∧ Rep y.F y.io d v ∧ Fin (PV (pw := pwOf X)) w y r σ H1 Q (toldR LT KD r d m1) :=
    rd_bind R q fun d m1 v y H1 R1 p1 st1 q1 => ⟨y, m1, d, R1, p1, q1⟩
  refine Calls.spliced_cons (thn (ha.run pins s σ H _ I h1) fun u s1 ⟨v, H1, I1, r1, y, m1, d, R1, p1, q1⟩ => ?_)
  refine Calls.spliced_nil ⟨I1.kIn, told_call ht KI F hr I1 R1 p1 r1 (fun k q hk => ?_) q1⟩
  obtain ⟨params, body, scope, fr, e, h2, h3, h4, h5⟩ := hL.ok k q hk
  rw [e]
  exact ⟨fr, h2, cells_of I1 (Caps.made I1.ok h3 h4 h5), fun y c hc => cells_nf hL.fn I1 ((Caps.made I1.ok h3 h4 h5).sub y c hc)⟩⟩
theorem slot_wipe {σ σ' : L2.St} {k j : Nat} (h : wipe σ' [k] = wipe σ [k]) (hj : j ≠ k) : σ'[j]? = σ[j]? := by
  have h1 := wipe_out (σ := σ') (i := j) (vs := [k]) (by simpa using hj)
  have h2 := wipe_out (σ := σ) (i := j) (vs := [k]) (by simpa using hj)
  rw [← h1, ← h2, h]
/-- what the element comes to: the maker's slots stand as they stood -/
def teK (pw : PWd) (wi : Wi) (σ : L2.St) (k : Nat) (f : SE) : TE := fun σ' H' Q => (∀ j, j ≠ k → σ'[j]? = σ[j]?) ∧ rd (PV (pw := pw)) wi f σ' H' Q
theorem kind_tlc {i : SL} {f : SE} {k : Nat} {σ : L2.St} {H : Hp} {Q : VK} (h0 : tLc (rd (PIt (pw := pwOf X)) w i) (rdG (pwOf X) [k] (gN k)) (rd (PB (pw := pwOf X)) w.no sYes) (rd (PV (pw := pwOf X)) w.no f) [k] σ H Q) :
    tLc (rd (PIt (pw := pwOf X)) w i) (rdG (pwOf X) [k] (gN k)) (rd (PB (pw := pwOf X)) w.no sYes) (teK (pwOf X) w.no σ k f) [k] σ H Q := by
  obtain ⟨x0, r0, m0, R0, q0⟩ := h0
  refine ⟨x0, r0, m0, R0, Fin.imp q0 (fun _ _ _ _ p => p) fun J H1 hJ D hD => ?_⟩
  obtain ⟨W, hm, turn⟩ := hJ D hD
  refine ⟨W, hm, fun n m H hW => (turn n m H hW).imp (fun z => z) fun ⟨go, Nx, hNx, step⟩ => ⟨go, Nx, hNx, fun x H' hy => ?_⟩⟩
  obtain ⟨x1, r1, m1, d1, R1, p1, q1⟩ := step x H' hy
  refine ⟨x1, r1, m1, d1, R1, p1, ?_⟩
  intro s' y2 a b c d e f
  obtain ⟨w1, x2, r2, m2, R2, q2⟩ := q1 s' y2 a b c d e f
  refine ⟨w1, x2, r2, m2, R2, Fin.imp q2 (fun _ _ _ _ p => p) fun bb H3 hb => ?_⟩
  cases bb with
  | false => exact hb
  | true =>
    simp only [if_true] at hb ⊢
    exact ⟨fun j hj => slot_wipe w1 hj, hb⟩
theorem kind_elt {t : Tf} {x a y : Str} {st : Stmt} {Ng : List Str} {KD : Nat → D → Option D} {LT : Nat → Option LamT} {lev k : Nat} {scope : Scope} {p1 p2 p3 : Pos} {pins : List (Addr × Obj)} {σ : L2.St} {s : Shared} {H : Hp} {Cb : Addr} {cl : List (Str × Addr)} {fp : List Addr} (ht : t = w.tf) (KI : KindIs X.prog X.w X.K X.mg t x a st Ng KD) (hL : LamsOk X t lev LT) (hr : Room (lev + 2) X.A)
    (hk : X.N[k]? = some y) (hjs : ∀ n q, LT n = some q → k ∉ q.js) (hdb : (x == ("__debug__" : Str)) = false) (hdy : (y == ("__debug__" : Str)) = false) (hcy : (y == ("__classdict__" : Str)) = false)
    (hg2 : Gl (X.blk s H scope (compEnvC scope cl Cb X.env) fp) x) (hv2 : Vis (X.blk s H scope (compEnvC scope cl Cb X.env) fp).env.scope y)
    (hst : starEach [.Name y p3] (X.blk s H scope (compEnvC scope cl Cb X.env) fp).env = (false, eval (.Name y p3) (X.blk s H scope (compEnvC scope cl Cb X.env) fp).env) :: starEach [] (X.blk s H scope (compEnvC scope cl Cb X.env) fp).env) (Ib : Inv X pins σ H s) (hfp : ∀ b ∈ fp, FpOk X pins H b) :
    PE (X.blk s H scope (compEnvC scope cl Cb X.env) fp) (.Call (.Name x p1) [.Name y p3] [] p2) (teK (pwOf X) w.no σ k (sKind LT KD (sVar k))) := by
  refine ⟨fun pinsZ sZ σZ HZ QZ IZ ⟨agree, x0, r, m, R, q⟩ => ?_⟩
  obtain ⟨g, fd, F, hm⟩ := KI.df.ex
  refine wpAny_Call_Name_kw (ld_glob IZ hg2 hm ?_ hdb)
  refine PySem.W.callWith_K (h₀ := X.base) IZ.ok.mod.kin F.kp ?_ hst (by rfl)
  rw [hst]
  show wpAny _ _ (spliced ((false, eval (.Name y p3) (X.blk s H scope (compEnvC scope cl Cb X.env) fp).env) :: backTo p2 (starEach [] (X.blk s H scope (compEnvC scope cl Cb X.env) fp).env))) _ _ sZ
  have h1 : rd (PV (pw := pwOf X)) w.no (sVar k) σZ HZ fun v H1 => ∃ (y : Sx (pwOf X)) (m1 : Sto) (d : Dl.D), Rel y r m1 σZ H1 ∧ Rep y.F y.io d v ∧ Fin (PV (pw := pwOf X)) w.no y r σZ H1 QZ (toldR LT KD r d m1) :=
    rd_bind R q fun d m1 v y H1 R1 p1 st1 q1 => ⟨y, m1, d, R1, p1, q1⟩
  refine Calls.spliced_cons (thn ((de_var (X := X.blk s H scope (compEnvC scope cl Cb X.env) fp) (pe_var (pos := p3) (i := k) hk hv2 hdy hcy)).run pinsZ sZ σZ HZ _ IZ h1) fun u s1 ⟨v, H1, I1, r1, y1, m1, d, R1, pp, q1⟩ => ?_)
  refine Calls.spliced_nil ⟨I1.kIn, told_call (Y := X.blk s H scope (compEnvC scope cl Cb X.env) fp) (w := w.no) ht KI F hr I1 R1 pp r1 (fun n q hk => ?_) q1⟩
  obtain ⟨params, body, scope', fr, e, h2, h3, h4, h5⟩ := hL.ok n q hk
  rw [e]
  have cp := Caps.made (scope := scope') Ib.ok h3 h4 h5
  have C0 := cells_of Ib cp
  have nf : ∀ z c, (cloFrom X.env.cells scope'.names []).lookup z = some c → c ∉ frs X.stack := fun z c hz => cells_nf hL.fn Ib (cp.sub z c hz)
  have C1 := C0.later (X := X.blk s H scope (compEnvC scope cl Cb X.env) fp) nf (fun z c hz hx => (hfp c hx).2.2.2.2.1 z c (cp.sub z c hz) rfl) I1
  have ew : q.js.map (slotAt σZ) = q.js.map (slotAt σ) := by
    apply List.map_congr_left
    intro j hj
    have hjk : j ≠ k := fun z => hjs n q hk (z ▸ hj)
    unfold NdefX.slotAt
    rw [agree j hjk]
  rw [ew]
  exact ⟨fr, h2, C1, nf⟩
section
variable {t : Tf} {x a y : Str} {st : Stmt} {Ng : List Str} {KD : Nat → D → Option D} {LT : Nat → Option LamT} {lev k : Nat} {i : SL} {iter : Expr} {scope : Scope} {p1 p2 p3 yp pos : Pos} (ht : t = w.tf) (KI : KindIs X.prog X.w X.K X.mg t x a st Ng KD) (hL : LamsOk X t lev LT) (hr : Room (lev + 2) X.A)
    (hc : X.calm = true) (hN : X.N.Nodup) (hi : DI X w (.Name y yp) iter i) (ok : BlkOk X.N X.env.scope scope [(y, k)]) (hk : X.N[k]? = some y) (hly : scope.names.lookup y = some .local) (hjs : ∀ n q, LT n = some q → k ∉ q.js)
    (hg : scope.names.lookup x = some .globalImplicit) 
    (hg2 : ∀ (s : Shared) (H : Hp) (C : Addr) (cl : List (Str × Addr)) (fp : List Addr), Gl (X.blk s H scope (compEnvC scope cl C X.env) fp) x) (hv2 : ∀ (s : Shared) (H : Hp) (C : Addr) (cl : List (Str × Addr)) (fp : List Addr), Vis (X.blk s H scope (compEnvC scope cl C X.env) fp).env.scope y)
    (hl2 : ∀ (s : Shared) (H : Hp) (C : Addr) (cl : List (Str × Addr)) (fp : List Addr), (X.blk s H scope (compEnvC scope cl C X.env) fp).env.scope.names.lookup y = some .local)
include ht KI hL hr hc hN hi ok hk hly hjs hg hg2 hv2 hl2
/-- [f(y) for y in iter] -/
theorem de_lcKind (hdb : (x == ("__debug__" : Str)) = false := by decide) (hdy : (y == ("__debug__" : Str)) = false := by decide) (hcy : (y == ("__classdict__" : Str)) = false := by decide) (hs : ∀ x, foldedSetIterable iter X.env x = pure x := by intro _; rfl)
    (hst : ∀ (s : Shared) (H : Hp) (C : Addr) (cl : List (Str × Addr)) (fp : List Addr), starEach [.Name y p3] (X.blk s H scope (compEnvC scope cl C X.env) fp).env = (false, eval (.Name y p3) (X.blk s H scope (compEnvC scope cl C X.env) fp).env) :: starEach [] (X.blk s H scope (compEnvC scope cl C X.env) fp).env := by intros; rfl) :
    DE X w (.ListComp (.Call (.Name x p1) [.Name y p3] [] p2) [⟨.Name y yp, iter, [], 0⟩] scope pos) (sLc [k] i (gN k) sYes (sKind LT KD (sVar k))) := ⟨fun pins s σ H Q I h =>
  lc_out hc hN I hi ok (fun s H C cl fp => dg_name (X := X.blk s H scope (compEnvC scope cl C X.env) fp) hN hk (.inl (hl2 s H C cl fp)) (.inr (hl2 s H C cl fp))) (fun σ H Q ⟨x, r, m, R, q⟩ => q true x H R rfl .refl)
    (fun sb Hb Cb cl fp Ib hfp => kind_elt (w := w) ht KI hL hr hk hjs hdb hdy hcy (hg2 sb Hb Cb cl fp) (hv2 sb Hb Cb cl fp) (hst sb Hb Cb cl fp) Ib hfp) hs (kind_tlc (w := w) (lc_rd (pw := pwOf X) (g := gN k) (ws := [k]) (vs := [k]) (by simp) σ H Q h))⟩
/-- z = [f(y) for y in iter], z a local -/
theorem ds_setKind {l : Nat} {z : Str} {zp spos : Pos} (hz : X.N[l]? = some z) (hzl : X.env.scope.names.lookup z = some .local) (hsw : swapsWith (.ListComp (.Call (.Name x p1) [.Name y p3] [] p2) [⟨.Name y yp, iter, [], 0⟩] scope pos) (some (.Name z zp)) spos.line X.env = pure true)
    (hdb : (x == ("__debug__" : Str)) = false := by decide) (hdy : (y == ("__debug__" : Str)) = false := by decide) (hcy : (y == ("__classdict__" : Str)) = false := by decide) (hs : ∀ x, foldedSetIterable iter X.env x = pure x := by intro _; rfl)
    (hst : ∀ (s : Shared) (H : Hp) (C : Addr) (cl : List (Str × Addr)) (fp : List Addr), starEach [.Name y p3] (X.blk s H scope (compEnvC scope cl C X.env) fp).env = (false, eval (.Name y p3) (X.blk s H scope (compEnvC scope cl C X.env) fp).env) :: starEach [] (X.blk s H scope (compEnvC scope cl C X.env) fp).env := by intros; rfl) :
    DS X w (.Assign [.Name z zp] (.ListComp (.Call (.Name x p1) [.Name y p3] [] p2) [⟨.Name y yp, iter, [], 0⟩] scope pos) spos) (sAsg (gN l) (sLc [k] i (gN k) sYes (sKind LT KD (sVar k)))) := ⟨fun pins s σ H D I ⟨x0, r, m, R, q⟩ => by
  have h : rd (PV (pw := pwOf X)) w (sLc [k] i (gN k) sYes (sKind LT KD (sVar k))) σ H fun v H1 => L2.gName l v σ H1 D.nx := by
    refine rd_bindS R q fun d m1 v y H1 R1 p1 st1 q1 => ?_
    obtain ⟨z, R', e1, e2, e3, e4⟩ := R1.putV l p1
    exact FinS.shift (.same e1 e2 e3 fun b hb => .inl (e4 b hb)) q1 _ z H1 R' .refl
  exact lc_outSet hc hN hz hzl hsw I hi ok (fun s H C cl fp => dg_name (X := X.blk s H scope (compEnvC scope cl C X.env) fp) hN hk (.inl (hl2 s H C cl fp)) (.inr (hl2 s H C cl fp))) (fun σ H Q ⟨x, r, m, R, q⟩ => q true x H R rfl .refl)
    (fun sb Hb Cb cl fp Ib hfp => kind_elt (w := w) ht KI hL hr hk hjs hdb hdy hcy (hg2 sb Hb Cb cl fp) (hv2 sb Hb Cb cl fp) (hst sb Hb Cb cl fp) Ib hfp) hs (kind_tlc (w := w) (lc_rd (pw := pwOf X) (g := gN k) (ws := [k]) (vs := [k]) (by simp) σ H _ h))⟩
end
end
end Dl
set_option autoImplicit true
/-! The data layer: evaluating what has been printed. -/
namespace Dl
open PySem PySem.Spec PyProof.Rows L2 TL

section
variable {r : Env} {m : Sto} {i j k l : Nat} {f g h : SE} {t u : SB} {a b : SS} {gl : SL}
@[simp] theorem ev_var : sVar i r m = (match r[i]? with | some (some (.val d)) => .ok d m | _ => .bad) := rfl
@[simp] theorem ev_pk : sPk i r m = (match r[i]? with | some (some (.val d)) => .ok d m | some (some (.lst l)) => .ok (.lst l) m | some (some (.dct ks vs)) => .ok (.own ks vs) m | _ => .bad) := rfl
@[simp] theorem ev_c {d : D} : sC d r m = .ok d m := rfl
@[simp] theorem ev_bin {o : D → D → Sto → R D} : sBin o f g r m = bindR (f r m) fun x m1 => bindR (g r m1) fun y m2 => o x y m2 := rfl
@[simp] theorem ev_B : sB f r m = bindR (f r m) fun d m => match d with | .bl b => .ok b m | _ => .bad := rfl
@[simp] theorem ev_And : sAnd t u r m = bindR (t r m) fun b m => if b = true then u r m else .ok false m := rfl
@[simp] theorem ev_Or : sOr t u r m = bindR (t r m) fun b m => if b = true then .ok true m else u r m := rfl
@[simp] theorem ev_Not : sNot t r m = bindR (t r m) fun b m => .ok (!b) m := rfl
@[simp] theorem ev_AndV : sAndV f g r m = bindR (sB f r m) fun b m => if b = true then g r m else .ok (.bl false) m := rfl
@[simp] theorem ev_OrV : sOrV f g r m = bindR (sB f r m) fun b m => if b = true then .ok (.bl true) m else g r m := rfl
@[simp] theorem ev_NotV : sNotV f r m = bindR (sB f r m) fun b m => .ok (.bl (!b)) m := rfl
@[simp] theorem ev_If : sIf t f g r m = bindR (t r m) fun b m => if b = true then f r m else g r m := rfl
@[simp] theorem ev_Chain {o p : D → D → Sto → R D} : sChain o p f g h r m = bindR (f r m) fun x m => bindR (g r m) fun y m => bindR (o x y m) fun k m => match k with
  | .bl true => bindR (h r m) fun z m => p y z m
  | .bl false => .ok (.bl false) m
  | _ => .bad := rfl
@[simp] theorem ev_Neg : sNeg f r m = bindR (f r m) fun d m => match d with | .int i => .ok (.int (-i)) m | _ => .bad := rfl
@[simp] theorem ev_nil : aNil r m = .ok [] m := rfl
@[simp] theorem ev_cons : aCons f gl r m = bindR (f r m) fun d m => bindR (gl r m) fun ds m => .ok (d :: ds) m := rfl
@[simp] theorem ev_tup : sTup gl r m = bindR (gl r m) fun ds m => if ds.length ≤ LIM then .ok (.tup ds) m else .bad := rfl
@[simp] theorem ev_lst : sLst gl r m = bindR (gl r m) fun ds m => if ds.length ≤ LIM then .ok (.lst ds) m else .bad := rfl
@[simp] theorem ev_oNone : oNone r m = .ok none m := rfl
@[simp] theorem ev_oSome : oSome f r m = bindR (f r m) fun d m => match d with | .int i => .ok (some i) m | _ => .bad := rfl
@[simp] theorem ev_sl {lo hi : SO} : sSl f lo hi r m = bindR (f r m) fun d m => bindR (lo r m) fun l m => bindR (hi r m) fun u m => opSl d l u m := rfl
@[simp] theorem ev_call {φ : Fd} : sCall φ gl r m = bindR (gl r m) fun ds m => φ ds m := rfl
@[simp] theorem ev_callF {n : Nat} {φ : Fd} {ds : List D} : callF n φ ds m = if ds.length = n then φ ds m else .bad := rfl
@[simp] theorem ev_meth {T : String} {o : D → List D → Sto → R D} : sMeth T o f gl r m = bindR (f r m) fun d m => if kD d = T then bindR (gl r m) fun ds m => o d ds m else .bad := rfl
@[simp] theorem kD_str {z : List Nat} : kD (.str z) = "str" := rfl
@[simp] theorem add_int {i j : Int} : opAdd (.int i) (.int j) m = .ok (.int (i + j)) m := rfl
@[simp] theorem add_str {x y : List Nat} : opAdd (.str x) (.str y) m = if x.length + y.length ≤ LIM then .ok (.str (x ++ y)) m else .bad := rfl
@[simp] theorem add_lst {x y : List D} : opAdd (.lst x) (.lst y) m = if x.length + y.length ≤ LIM then .ok (.lst (x ++ y)) m else .bad := rfl
@[simp] theorem add_tup {x y : List D} : opAdd (.tup x) (.tup y) m = if x.length + y.length ≤ LIM then .ok (.tup (x ++ y)) m else .bad := rfl
@[simp] theorem sub_int {i j : Int} : opSub (.int i) (.int j) m = .ok (.int (i - j)) m := rfl
@[simp] theorem mod_int {i j : Int} : opMod (.int i) (.int j) m = if 0 < j then .ok (.int (i % j)) m else .bad := rfl
@[simp] theorem div_int {i j : Int} : opDiv (.int i) (.int j) m = if 0 < j ∧ j < 18446744073709551616 then .ok (.int (i / j)) m else .bad := rfl
@[simp] theorem lt_int {i j : Int} : opLt (.int i) (.int j) m = .ok (.bl (decide (i < j))) m := rfl
@[simp] theorem le_int {i j : Int} : opLe (.int i) (.int j) m = .ok (.bl (decide (i ≤ j))) m := rfl
@[simp] theorem gt_int {i j : Int} : opGt (.int i) (.int j) m = .ok (.bl (decide (j < i))) m := rfl
@[simp] theorem ge_int {i j : Int} : opGe (.int i) (.int j) m = .ok (.bl (decide (j ≤ i))) m := rfl
@[simp] theorem ev_eq {a b : D} : opEq a b m = if okN 60 a = true ∧ okN 60 b = true then .ok (.bl (eqD a b)) m else .bad := rfl
@[simp] theorem ev_ne {a b : D} : opNe a b m = if okN 60 a = true ∧ okN 60 b = true then .ok (.bl (!eqD a b)) m else .bad := rfl
@[simp] theorem ev_in {a b : D} : opIn a b m = ofO ((inD a b).map D.bl) m := rfl
@[simp] theorem ev_nin {a b : D} : opNin a b m = ofO ((inD a b).map fun k => D.bl (!k)) m := rfl
@[simp] theorem in_str {c : Nat} {z : List Nat} : inD (.str [c]) (.str z) = some (decide (c ∈ z)) := rfl
@[simp] theorem is_non {a : D} : opIs a .non m = ofO ((isNonD a).map D.bl) m := rfl
@[simp] theorem isn_non {a : D} : opIsn a .non m = ofO ((isNonD a).map fun k => D.bl (!k)) m := rfl
@[simp] theorem isNon_non : isNonD .non = some true := rfl
@[simp] theorem isNon_tup {l : List D} : isNonD (.tup l) = some false := rfl
@[simp] theorem isNon_lst {l : List D} : isNonD (.lst l) = some false := rfl
@[simp] theorem isNon_int {l : Int} : isNonD (.int l) = some false := rfl
@[simp] theorem isNon_str {l : List Nat} : isNonD (.str l) = some false := rfl
@[simp] theorem ev_ix {a b : D} : opIx a b m = ofO (ixD a b) m := rfl
@[simp] theorem ix_l {l : List D} {i : Int} : ixD (.lst l) (.int i) = atI l i := rfl
@[simp] theorem ix_t {l : List D} {i : Int} : ixD (.tup l) (.int i) = atI l i := rfl
@[simp] theorem sl_l {l : List D} {lo hi : Option Int} : opSl (.lst l) lo hi m = .ok (.lst (cutL l lo hi)) m := rfl
@[simp] theorem sl_t {l : List D} {lo hi : Option Int} : opSl (.tup l) lo hi m = .ok (.tup (cutL l lo hi)) m := rfl
@[simp] theorem len_str {z : List Nat} : fLen [.str z] m = if z.length ≤ LIM then .ok (.int z.length) m else .bad := rfl
@[simp] theorem len_lst {l : List D} : fLen [.lst l] m = .ok (.int l.length) m := rfl
@[simp] theorem len_tup {l : List D} : fLen [.tup l] m = .ok (.int l.length) m := rfl
@[simp] theorem max_int {i j : Int} : fMax [.int i, .int j] m = .ok (.int (max i j)) m := rfl
@[simp] theorem min_int {i j : Int} : fMin [.int i, .int j] m = .ok (.int (min i j)) m := rfl
@[simp] theorem int_int {i : Int} : fInt [.int i] m = .ok (.int i) m := rfl
@[simp] theorem int_bl {b : Bool} : fInt [.bl b] m = .ok (.int (if b then 1 else 0)) m := rfl
@[simp] theorem text_str {z : List Nat} : fText [.str z] m = .ok (.str z) m := rfl
@[simp] theorem tuple_l {l : List D} : fTuple [.lst l] m = .ok (.tup l) m := rfl
@[simp] theorem tuple_t {l : List D} : fTuple [.tup l] m = .ok (.tup l) m := rfl
@[simp] theorem list_l {l : List D} : fList [.lst l] m = .ok (.lst l) m := rfl
@[simp] theorem list_t {l : List D} : fList [.tup l] m = .ok (.lst l) m := rfl
@[simp] theorem ev_skip : sSkip r m = .nx r m := rfl
@[simp] theorem ev_seq : sSeq a b r m = (match a r m with | .nx r m => b r m | o => o) := rfl
@[simp] theorem ev_forget : sForget i b r m = b (r.set i none) m := rfl
@[simp] theorem ev_freeze : sFreeze i b r m = (match r[i]? with | some (some (.lst l)) => b (r.set i (some (.val (.lst l)))) m | some (some (.dct ks vs)) => b (r.set i (some (.val (.dct ks vs)))) m | _ => .bad) := rfl
@[simp] theorem ev_ret : sRet f r m = bindS r (f r m) fun d m => .rt d m := rfl
@[simp] theorem ev_expr : sExpr f r m = bindS r (f r m) fun _ m => .nx r m := rfl
@[simp] theorem ev_ifS : sIfS t a b r m = bindS r (t r m) fun c m => if c = true then a r m else b r m := rfl
@[simp] theorem ev_cV : cV f r m = bindR (f r m) fun d m => .ok (.val d) m := rfl
@[simp] theorem ev_cL : cL gl r m = bindR (gl r m) fun ds m => if ds.length ≤ LIM then .ok (.lst ds) m else .bad := rfl
@[simp] theorem ev_set {f : SCe} : sSet i f r m = bindS r (f r m) fun c m => .nx (r.set i (some c)) m := rfl
@[simp] theorem ev_par {f g : SCe} : sPar i j f g r m = bindS r (f r m) fun c m => bindS r (g r m) fun d m => .nx ((r.set i (some c)).set j (some d)) m := rfl
@[simp] theorem ev_par3 {f g h : SCe} : sPar3 i j l f g h r m = bindS r (f r m) fun c m => bindS r (g r m) fun d m => bindS r (h r m) fun k m => .nx (((r.set i (some c)).set j (some d)).set l (some k)) m := rfl
@[simp] theorem ev_asg {G : Gm} : sAsg G f r m = bindS r (f r m) fun d m => match G d r with | some r' => .nx r' m | none => .bad := rfl
@[simp] theorem ev_gN {d : D} : gN i d r = some (r.set i (some (.val d))) := rfl
@[simp] theorem ev_gTup {F : Gms} {l : List D} : gTup F (.tup l) r = F l r := rfl
@[simp] theorem ev_gsNil : gsNil [] r = some r := rfl
@[simp] theorem ev_gsCons {F : Gm} {G : Gms} {d : D} {l : List D} : gsCons F G (d :: l) r = (F d r).bind (G l) := rfl
@[simp] theorem ev_app : sApp i f r m = (match r[i]? with | some (some (.lst l)) => bindS r (f r m) fun d m => if l.length < LIM then .nx (r.set i (some (.lst (l ++ [d])))) m else .bad | _ => .bad) := rfl
@[simp] theorem ev_for {I : SL} {G : Gm} : sFor I G b r m = bindS r (I r m) fun l m => forL G b l r m := rfl
@[simp] theorem ev_It : sIt f r m = bindR (f r m) fun d m => ofO (itD d) m := rfl
@[simp] theorem itD_l {l : List D} : itD (.lst l) = some l := rfl
@[simp] theorem itD_t {l : List D} : itD (.tup l) = some l := rfl
@[simp] theorem itD_s {z : List Nat} : itD (.str z) = some (z.map fun c => .str [c]) := rfl
@[simp] theorem ev_En {d : D} (hg : gl r m = .ok [d] m) : sEn gl r m = (match itD d with | some l => .ok (enumL 0 l) m | _ => .bad) := by
  unfold sEn
  rw [hg]
  rfl
@[simp] theorem ev_Rg {i : Int} {m' : Sto} (hg : gl r m = .ok [.int i] m') : sRg gl r m = if inR i = true then .ok (rangeL 0 i.toNat) m' else .bad := by
  unfold sRg
  rw [hg]
  rfl
@[simp] theorem ev_Lc {vs : List Nat} {I : SL} {G : Gm} : sLc vs I G t f r m = bindR (I r m) fun ds m => if ds.length ≤ LIM ∧ vs.all (bare r) = true then bindR (lcL G t f (wipeE r vs) ds m) fun l m => .ok (.lst l) m else .bad := rfl
@[simp] theorem ev_yes : sYes r m = .ok true m := rfl
@[simp] theorem bindN_ok {α β : Type} {a : α} {F : α → Sto → R β} : bindN (.ok a m) F = F a m := rfl
@[simp] theorem ofFl_nx : ofFl (.nx r m) = .ok .non m := rfl
@[simp] theorem ofFl_rt {d : D} : ofFl (.rt d m) = .ok d m := rfl
@[simp] theorem bare_none {r : Env} : bare (none :: r) 0 = true := rfl
@[simp] theorem bare_val {r : Env} {d : D} : bare (some (.val d) :: r) 0 = true := rfl
@[simp] theorem bare_succ {r : Env} {c : Option Cell} {i : Nat} : bare (c :: r) (i + 1) = bare r i := by simp [bare]
@[simp] theorem wipeE_nil : wipeE r [] = r := rfl
@[simp] theorem wipeE_cons {v : Nat} {vs : List Nat} : wipeE r (v :: vs) = (wipeE r vs).set v none := rfl
@[simp] theorem atI_zero {α : Type} {x : α} {l : List α} : atI (x :: l) 0 = some x := by
  simp [atI, ixN]
end
/-! ### loops and comprehensions by what each turn does -/
theorem forL_nil {g : Gm} {b : SS} {r : Env} {m : Sto} : forL g b [] r m = .nx r m := rfl
/-- a turn that goes on -/
theorem forL_step {g : Gm} {b : SS} {d : D} {l : List D} {r r' r2 : Env} {m m2 : Sto} (h1 : g d r = some r') (h2 : b r' m = .nx r2 m2) : forL g b (d :: l) r m = forL g b l r2 m2 := by
  show (match g d r with | some r' => (match b r' m with | .nx r m => forL g b l r m | .ct r m => forL g b l r m | .bk r m => .nx r m | .rt d m => .rt d m | .exc c v r m => .exc c v r m | .bad => .bad) | none => .bad) = _
  rw [h1]
  dsimp only
  rw [h2]
/-- a loop whose turns all go on, by a state of one's own -/
theorem forL_inv {g : Gm} {b : SS} (I : Nat → Env → Sto → Prop) : ∀ (l : List D) (n : Nat) (r : Env) (m : Sto), I n r m →
    (∀ (k : Nat) (d : D) (r : Env) (m : Sto), l[k]? = some d → I (n + k) r m → ∃ r' r2 m2, g d r = some r' ∧ b r' m = .nx r2 m2 ∧ I (n + k + 1) r2 m2) → ∃ r2 m2, forL g b l r m = .nx r2 m2 ∧ I (n + l.length) r2 m2
  | [], n, r, m, h, _ => ⟨r, m, rfl, h⟩
  | d :: l, n, r, m, h, hs => by
    obtain ⟨r', r2, m2, h1, h2, h3⟩ := hs 0 d r m rfl h
    obtain ⟨r3, m3, e, i3⟩ := forL_inv I l (n + 1) r2 m2 h3 fun k d r m hk hi => by
      have e1 : n + 1 + k = n + (k + 1) := by omega
      rw [e1] at hi ⊢
      exact hs (k + 1) d r m (by simpa using hk) hi
    refine ⟨r3, m3, by rw [forL_step h1 h2, e], ?_⟩
    have e2 : n + 1 + l.length = n + (d :: l).length := by simp; omega
    rw [e2] at i3
    exact i3
/-- a loop that leaves all as it was -/
theorem forL_same {g : Gm} {b : SS} {l : List D} {r : Env} {m : Sto} (h : ∀ (k : Nat) (d : D), l[k]? = some d → ∃ r', g d r = some r' ∧ b r' m = .nx r m) : forL g b l r m = .nx r m := by
  obtain ⟨r2, m2, e, e1, e2⟩ := forL_inv (g := g) (b := b) (fun _ r' m' => r' = r ∧ m' = m) l 0 r m ⟨rfl, rfl⟩ fun k d r' m' hk ⟨e1, e2⟩ => by
    subst e1 e2
    obtain ⟨r2, h1, h2⟩ := h k d hk
    exact ⟨r2, r', m', h1, h2, rfl, rfl⟩
  rw [e, e1, e2]
/-- a comprehension without a draw -/
theorem lcL_map {g : Gm} {t : SB} {f : SE} {r0 : Env} {m : Sto} (φ : D → D) : ∀ (l : List D), (∀ d ∈ l, ∃ r', g d r0 = some r' ∧ t r' m = .ok true m ∧ f r' m = .ok (φ d) m) → lcL g t f r0 l m = .ok (l.map φ) m
  | [], _ => rfl
  | d :: l, h => by
    obtain ⟨r', h1, h2, h3⟩ := h d (List.mem_cons_self ..)
    have ih := lcL_map φ l fun d hd => h d (List.mem_cons_of_mem _ hd)
    unfold lcL
    rw [h1]
    simp [h2, h3, ih]
/-- by the place -/
theorem lcL_mapI {g : Gm} {t : SB} {f : SE} {r0 : Env} {m : Sto} : ∀ (l ys : List D), l.length = ys.length → (∀ (k : Nat) (d y : D), l[k]? = some d → ys[k]? = some y → ∃ r', g d r0 = some r' ∧ t r' m = .ok true m ∧ f r' m = .ok y m) → lcL g t f r0 l m = .ok ys m
  | [], [], _, _ => rfl
  | d :: l, y :: ys, hl, h => by
    obtain ⟨r', h1, h2, h3⟩ := h 0 d y rfl rfl
    have ih := lcL_mapI l ys (by simpa using hl) fun k d y hd hy => h (k + 1) d y (by simpa using hd) (by simpa using hy)
    unfold lcL
    rw [h1]
    simp [h2, h3, ih]
theorem lcL_filter {g : Gm} {t : SB} {f : SE} {r0 : Env} {m : Sto} (p : D → Bool) (φ : D → D) : ∀ (l : List D), (∀ d ∈ l, ∃ r', g d r0 = some r' ∧ t r' m = .ok (p d) m ∧ (p d = true → f r' m = .ok (φ d) m)) → lcL g t f r0 l m = .ok ((l.filter p).map φ) m
  | [], _ => rfl
  | d :: l, h => by
    obtain ⟨r', h1, h2, h3⟩ := h d (List.mem_cons_self ..)
    have ih := lcL_filter p φ l fun d hd => h d (List.mem_cons_of_mem _ hd)
    unfold lcL
    rw [h1]
    by_cases hp : p d = true
    · simp [h2, h3 hp, ih, hp]
    · simp [h2, ih, hp]
/-- with draws: each item is what P says -/
theorem lcL_draw {g : Gm} {t : SB} {f : SE} {r0 : Env} (G : Sto → Prop) (P : D → D → Prop) : ∀ (l : List D) (m : Sto), G m → (∀ d ∈ l, ∀ m, G m → ∃ r' y m', g d r0 = some r' ∧ t r' m = .ok true m ∧ f r' m = .ok y m' ∧ P d y ∧ G m') →
    ∃ ys m', lcL g t f r0 l m = .ok ys m' ∧ ys.length = l.length ∧ (∀ (k : Nat) (d y : D), l[k]? = some d → ys[k]? = some y → P d y) ∧ G m'
  | [], m, hm, _ => ⟨[], m, rfl, rfl, fun k d y h => by simp at h, hm⟩
  | d :: l, m, hm, h => by
    obtain ⟨r', y, m', h1, h2, h3, h4, h5⟩ := h d (List.mem_cons_self ..) m hm
    obtain ⟨ys, m2, e, el, hp, hg⟩ := lcL_draw G P l m' h5 fun d hd => h d (List.mem_cons_of_mem _ hd)
    refine ⟨y :: ys, m2, ?_, by simp [el], fun k d' y' e1 e2 => ?_, hg⟩
    · unfold lcL
      rw [h1]
      simp [h2, h3, e]
    · cases k with
      | zero => simp at e1 e2; subst e1 e2; exact h4
      | succ k => exact hp k d' y' (by simpa using e1) (by simpa using e2)
/-- with a draw in the test: some of the items -/
theorem lcL_some {g : Gm} {t : SB} {f : SE} {r0 : Env} (G : Sto → Prop) : ∀ (l : List D) (m : Sto), G m → (∀ d ∈ l, ∀ m, G m → ∃ r' b m', g d r0 = some r' ∧ t r' m = .ok b m' ∧ G m' ∧ f r' m' = .ok d m') →
    ∃ ys m', lcL g t f r0 l m = .ok ys m' ∧ ys.Sublist l ∧ G m'
  | [], m, hm, _ => ⟨[], m, rfl, .slnil, hm⟩
  | d :: l, m, hm, h => by
    obtain ⟨r', b, m', h1, h2, h3, h4⟩ := h d (List.mem_cons_self ..) m hm
    obtain ⟨ys, m2, e, sl, hg⟩ := lcL_some G l m' h3 fun d hd => h d (List.mem_cons_of_mem _ hd)
    cases b with
    | true =>
      refine ⟨d :: ys, m2, ?_, sl.cons₂ d, hg⟩
      unfold lcL
      rw [h1]
      simp [h2, h4, e]
    | false =>
      refine ⟨ys, m2, ?_, sl.cons d, hg⟩
      unfold lcL
      rw [h1]
      simp [h2, e]
/-! ### the draws -/
/-- the draws' object stands at 0 -/
def Good (ρ : Sto) (m : Sto) : Prop := ∃ s cs p, m = .drw s cs p :: ρ ∧ 0 ≤ p ∧ cs.length ≤ 63
theorem draw {ρ m : Sto} (h : Good ρ m) {k : Int} (h0 : 0 < k) (h1 : k < 18446744073709551616) : ∃ v m', fNext [.obj 0, .int k] m = .ok (.int v) m' ∧ 0 ≤ v ∧ v < k ∧ Good ρ m' := by
  obtain ⟨s, cs, p, rfl, hp, hc⟩ := h
  have hl : cs.length < LIM := Nat.lt_of_le_of_lt hc (by decide)
  have e : fNext [.obj 0, .int k] (.drw s cs p :: ρ) = .ok (.int (nextD s cs p k).1) ((nextD s cs p k).2 :: ρ) := if_pos ⟨h0, h1, hp, hl⟩
  refine ⟨_, _, e, ?_, ?_, ?_⟩
  · unfold nextD
    dsimp only
    split <;> exact Int.emod_nonneg _ (by omega)
  · unfold nextD
    dsimp only
    split <;> exact Int.emod_lt_of_pos _ h0
  · unfold nextD
    dsimp only
    split
    · exact ⟨_, _, _, rfl, hp, by simpa using hc⟩
    · exact ⟨_, _, _, rfl, by omega, hc⟩
theorem good_start {ρ : Sto} {ns : List Int} {s : Int} (h : ns.length ≤ 63) : Good ρ (.drw s ns 0 :: ρ) := ⟨s, ns, 0, rfl, Int.le_refl 0, h⟩
end Dl
set_option autoImplicit true
/-! An own exception class over ValueError, its own __init__ called with a keyword. -/
namespace PySem.HandSPX.KwX
open Builtin Builtin.ObjectAttr
section
variable {M : Model} {A : Around} {E : Value → Shared → Prop} {hp : Heap} {gs : Array GenState} {dr : Drawn} {tk : Nat} {os : OsState}
variable {nm q : Str} {C N : Addr} {bs bm : List Value} {hdct : Bool} {sn : List Str} {sub : List Value} {ab : Bool} {col : Option Bool} {dd : Option Addr} {k0 k1 k2 k3 k5 : Option Value} {kws : List (Str × Value)}
theorem new_checked {Q : Unit → Shared → Prop} (hm : refsVE bm = true) (hk : hp.get? C = some (excClassObj nm q C N bs bm hdct sn sub ab col dd k0 k1 k2 k3 k5 "ValueError.__new__")) (hq : Q () ⟨hp, gs, dr, tk, os⟩) :
    wpAny M A (checkBuiltinCall "ValueError.__new__" ⟨[.ref C], kws⟩) Q E ⟨hp, gs, dr, tk, os⟩ := by
  have Fb := F.excBase_ValueError
  have has : (Value.ref C :: bm).contains (.type "ValueError") = true := by rw [List.contains_cons, refsVE_contains _ _ hm]; rfl
  have star := Fb.noStar
  simp only [checkBuiltinCall, Fb.newKind, Fb.newSplit, Fb.newRow]
  repeat (first | refine wpAny_loadPart_at hk ?_ | (refine wpAny_isSubtype_exc hk ?_; rw [has]) | refine wpAny_staticBase_exc hk ?_ | refine wpAny_madeBy_exc hk ?_ | simp only [bne_self_eq_false, Bool.false_eq_true, if_false] | wp_step)
  exact hq
end
section
variable {prog : Program} {w : World} {A : Around} {E : Value → Shared → Prop} {R : Result → Shared → Prop} {hp : Heap} {gs : Array GenState} {dr : Drawn} {tk : Nat} {os : OsState}
variable {nm q : Str} {C N : Addr} {bs bm : List Value} {hdct : Bool} {sn : List Str} {sub : List Value} {ab : Bool} {col : Option Bool} {dd : Option Addr} {k0 k1 k2 k3 k5 : Option Value} {kws : List (Str × Value)}
theorem new_made (hm : refsVE bm = true) (hk : hp.get? C = some (excClassObj nm q C N bs bm hdct sn sub ab col dd k0 k1 k2 k3 k5 "ValueError.__new__"))
    (hq : R (.ok (.ret (.ref (hp.objs.size + 1)))) ⟨(hp.push (W.kdv_tup [])).push (excO C hp.objs.size), gs, dr, tk, os⟩) :
    codeAny (model prog w) A (.builtin "ValueError.__new__" ⟨[.ref C], kws⟩) R ⟨hp, gs, dr, tk, os⟩ := by
  have Fb := F.excBase_ValueError
  have ends := Fb.ends
  have has : (Value.ref C :: bm).contains (.type "ValueError") = true := by rw [List.contains_cons, refsVE_contains _ _ hm]; rfl
  have na : (Value.ref C :: bm).contains (.type "AttributeError") = false := by rw [List.contains_cons, refsVE_contains _ _ hm]; rfl
  have nn : (Value.ref C :: bm).contains (.type "NameError") = false := by rw [List.contains_cons, refsVE_contains _ _ hm]; rfl
  refine codeAny_builtinAt Fb.entry ?_
  unfold Builtin.«BaseException.__new__»
  refine wpAt_bind ?_
  show wpAt _ _ _ (stack >>= _) _ _ _
  refine wpAt_bind (wpAt_stack fun p below => wpAt_of_wpAny ?_)
  wp_walk
  refine wpAt_of_wpAny ?_
  rw [Fb.owner]
  repeat (first | with_reducible refine wpAny_madeHere_exc Fb.canon hk ?_ | with_reducible refine wpAny_loadPart_at hk ?_ | (with_reducible refine wpAny_isSubtype_exc hk ?_; first | rw [has] | rw [na] | rw [nn]) | wp_step)
  show R _ _
  rw [Heap.size_push]
  exact hq
theorem type_called {fI : Addr} {Q : Fin → Shared → Prop} (hm : refsVE bm = true) (hk : hp.get? C = some (excClassObj nm q C N bs bm hdct sn sub ab col dd k0 k1 k2 k3 k5 "ValueError.__new__"))
    (hi : W.Looks (model prog w) hp (typeLookup (.ref C) "__init__") (some (.ref fI))) (hb : ∀ self, W.Looks (model prog w) hp (bindSpecial (.ref fI) self) (.ref fI, [self]))
    (hq : codeAny (model prog w) A (.call (.ref fI) ⟨[.ref (hp.objs.size + 1)], kws⟩)
      (fun r s' => match r with | .ok (.ret v) => v = .none ∧ Q (.done (.ret (.ref (hp.objs.size + 1)))) s' | .ok _ => False | .error e => E e s')
      ⟨(hp.push (W.kdv_tup [])).push (excO C hp.objs.size), gs, dr, tk, os⟩) :
    wpAny (model prog w) A (Builtin.«type.__call__» ⟨[.ref C], kws⟩) Q E ⟨hp, gs, dr, tk, os⟩ := by
  have Fb := F.excBase_ValueError
  repeat (first | with_reducible refine wpAny_loadPart_at hk ?_ | with_reducible refine wpAny_madeBy_exc hk ?_ | wp_step)
  refine codeAny_call_builtin_code (Code.quiet_builtin _ Fb.quiet) (new_checked hm hk ?_)
  refine new_made hm hk ?_
  show wpAny _ _ _ _ _ _
  have k : ∀ b o, hp.get? b = some o → ((hp.push (W.kdv_tup [])).push (excO C hp.objs.size)).get? b = some o := fun b o e => Heap.get?_push_of_some _ (Heap.get?_push_of_some _ e)
  have hk1 := k _ _ hk
  have hget : ((hp.push (W.kdv_tup [])).push (excO C hp.objs.size)).get? (hp.objs.size + 1) = some (excO C hp.objs.size) := by heap_get
  have self : (Value.ref C :: bm).contains (.ref C) = true := by simp
  have i1 := hi.keeps k
  have b1 := (hb (.ref (hp.objs.size + 1))).keeps k
  unfold isInstance
  repeat (first | with_reducible refine wpAny_loadPart_at hget ?_ | (with_reducible refine wpAny_isSubtype_exc hk1 ?_; rw [self]) | wp_step)
  show wpAny _ _ (typeLookup (.ref C) _) _ _ _
  refine i1.at ?_
  refine wpAny_holding (wpAny_bind (b1.at ?_))
  refine wpAny_bind (wpAny_call (codeAny_mono hq fun r s' z => ?_))
  rcases r with e | (v | _ | _ | _) <;> first | exact z | exact z.elim | skip
  obtain ⟨rfl, z⟩ := z
  first
    | exact wpAny_pure (wpAny_pure z)
    | (wp_walk; exact z)
theorem call_made {fI : Addr} (hm : refsVE bm = true) (hk : hp.get? C = some (excClassObj nm q C N bs bm hdct sn sub ab col dd k0 k1 k2 k3 k5 "ValueError.__new__"))
    (hi : W.Looks (model prog w) hp (typeLookup (.ref C) "__init__") (some (.ref fI))) (hb : ∀ self, W.Looks (model prog w) hp (bindSpecial (.ref fI) self) (.ref fI, [self]))
    (hq : codeAny (model prog w) (A.under (.builtin "type.__call__" ⟨[.ref C], kws⟩)) (.call (.ref fI) ⟨[.ref (hp.objs.size + 1)], kws⟩) (W.InitBack (hp.objs.size + 1) R)
      ⟨(hp.push (W.kdv_tup [])).push (excO C hp.objs.size), gs, dr, tk, os⟩) :
    codeAny (model prog w) A (.call (.ref C) ⟨[], kws⟩) R ⟨hp, gs, dr, tk, os⟩ := by
  have f1 := tc_lookup
  have f2 := tc_bind (.ref C)
  have ty : (⟨hp, gs, dr, tk, os⟩ : Shared).TypeIs (.ref C) "type" := ⟨_, hk, rfl⟩
  refine codeAny_of_tree ?_
  show wpAny _ _ (callAny (.ref C) _) _ _ _
  repeat (any_goals (first | assumption | with_reducible refine wpAny_loadPart_at hk ?_ | wp_step))
  refine ⟨rfl, ?_⟩
  refine codeAny_call_builtin_at (Code.quiet_builtin _ (by decide +kernel)) entry_typeCall (wpAny_check_type_call_sub hk (type_called hm hk hi hb ?_))
  refine codeAny_mono hq fun r s' z => ?_
  rcases r with e | (v | _ | _ | _) <;> exact z
end
end PySem.HandSPX.KwX
set_option autoImplicit true
/-! An own error with a field: its base's __init__, its own __init__, its making; isinstance of a held one that has a dict. -/
namespace Dl.KwX
open PySem PySem.Spec PyProof.Rows L2 PySem.HandSPX.KwX
/-- an own class over ValueError without own __init__: what its __init__ is -/
structure BaseC (K : PySem.W.Frag) (mg : Str → Option Value) (x : Str) (R : Addr) : Prop where
  g : mg x = some (.ref R)
  rd : ClX.CRead K R (.type "type")
  fi : PySem.W.findCls K (.ref R) (.type "type") "__init__" = some (.val (.builtin "ValueError.__init__"))
section
variable {X : Cx} {x : Str} {R : Addr} {e : Expr} {es : List Expr} {ta : TA} {p1 p2 pos : Pos}
theorem pe_baseInit {pl : Sem Bool} (B : BaseC X.K X.mg x R) (hg : Gl X x) (ha : PA X (e :: es) ta) (hdb : (x == ("__debug__" : Str)) = false := by decide)
    (hc : eval (.Call (.Attribute (.Name x p1) "__init__" p2) (e :: es) [] pos) X.env = (do
      let ov ← eval (.Name x p1) X.env
      standAt p2.atName
      let (f, first) ← holding [ov] (getMethod ov "__init__" pl)
      callWith pos f first (backTo pos (starEach (e :: es) X.env)) (backToKw pos (keywordEach [] X.env))) := by rfl)
    (he : starEach (e :: es) X.env = (false, eval e X.env) :: starEach es X.env := by rfl) (hpl : (backTo pos (starEach es X.env)).any (·.1) = false := by rfl) :
    PE X (.Call (.Attribute (.Name x p1) "__init__" p2) (e :: es) [] pos) (tVeI X.K ta) := by
  refine ⟨fun pins s σ H Q I h => ?_⟩
  refine PySem.W.methodCall_KW (ld_glob I hg B.g ?_ hdb) hc
  refine PySem.W.method_cls I.kIn B.rd.ga (PySem.W.cls_value I.kIn B.rd.rd B.fi (by rfl) ?_)
  show wpAny _ _ (callWith pos (Value.builtin "ValueError.__init__") [] (backTo pos (starEach (e :: es) X.env)) []) _ _ _
  refine PyProof.Rows.callWith_method1 (thn (ha.run pos pins _ σ H _ (I.tok _) h) fun us s1 ⟨vs, H1, I1, r1, a, C, ws, ev, hl, T, ea, q⟩ => ?_) he hpl
  subst ev
  cases r1 with
  | @cons _ u0 _ ur ra rw' =>
    obtain rfl : u0 = Value.ref a := ra
    have small : ur.length ≤ sizeLine := by
      rw [← Paired.length rw', sizeLine_eq]
      omega
    exact oinit_ok T I1 ea small fun s' J => ⟨.non, H1, J, rfl, q⟩
end
/-- what the own __init__(self, *, f) keeps -/
def spInit (C : Addr) (f : Str) : Sp := fun vs H Q E => ∃ (a : Addr) (v : V), vs = [.ref a, v] ∧ H a = some (exo a C none) ∧ ∀ (dx : Addr) (H' : Hp), H dx = none → dx ≠ a → H' = upd (upd H dx (exd dx [(f, v)])) a (exo a C (some dx)) → Q .non H'
/-- the reading of its body, from the start -/
theorem init_start {K : PySem.W.Frag} {C : Addr} {f : Str} {N : List Str} {vs : List V} {H : Hp} {Q : VK} {E : XK} (T : OexC K C) (hno : PySem.W.findIn K (.ref C) f = some none) (hN : N.length = 2) (h : spInit C f vs H Q E) :
    tSeq (tDrop (tVeI K (tCons (tVar 0) (tCons (tVar 1) tNil)))) (tOst K f (tVar 0) (tVar 1)) { nx := fun _ H' => Q .non H', rt := Q } (L2.start N vs) H := by
  obtain ⟨a, v, rfl, ha, q⟩ := h
  have e0 : L2.start N [.ref a, v] = [some (.ref a), some v] := by
    unfold L2.start
    rw [hN]
    rfl
  rw [e0]
  exact ⟨.ref a, rfl, v, rfl, a, C, [v], rfl, by simp, T, ha, v, rfl, .ref a, rfl, a, C, rfl, T, hno, .inl ⟨ha, fun dx n ne => q dx _ n ne rfl⟩⟩
section
variable {X : Cx} {x f : Str} {C fI : Addr} {k : Nat} {fd : FuncData} {ps : List Str} {e : Expr} {te : TE} {p pos kp : Pos}
/-- C(f = e) -/
theorem pmk_kw (T : OexC X.K C) (iC : PySem.W.findIn X.K (.ref C) "__init__" = some (some (.ref fI))) (tI : PySem.W.typeIn X.K (.ref fI) = some (.type "function"))
    (F1 : FnOk X.prog X.w X.K X.mg X.base (L2.CX X.prog X.w) k fI fd ps (spInit C f)) (hr : Room (k + 1) X.A) (hb : ∀ (s : Shared) (u v : Value), BindsTo s fd ⟨[u], [(f, v)]⟩ (ps.zip [u, v]))
    (hg : Gl X x) (hm : X.mg x = some (.ref C)) (he : PE X e te) (hdb : (x == ("__debug__" : Str)) = false := by decide)
    (hall : (backToKw pos (keywordEach [⟨some f, e, kp⟩] X.env)).all (·.1.isSome) = true := by rfl) (hks : (backToKw pos (keywordEach [⟨some f, e, kp⟩] X.env)).filterMap (·.1) = [f] := by rfl)
    (hpl : ((backTo pos (starEach [] X.env)).any (·.1) || (backToKw pos (keywordEach [⟨some f, e, kp⟩] X.env)).any (·.1.isNone)) = false := by rfl) :
    PMk X (.Call (.Name x p) [] [⟨some f, e, kp⟩] pos) (fun σ H Q => te σ H fun v H1 => ∀ d H2, H1 d = none → H2 = upd H1 d (.xd [(f, v)]) → Q (.ref C) (some d) H2) := by
  intro pins s σ H Q I h
  obtain ⟨nm, q, N, bs, bm, sn, sub, ab, col, dd, k0, k1, k2, k3, k5, hC, hbm⟩ := T.cls
  refine wpAny_Call_Name_kw (ld_glob I hg hm ?_ hdb)
  have hk : PK X [⟨some f, e, kp⟩] (tCons te tNil) := pk_cons he pk_nil
  have h0 : tCons te tNil σ H fun vs H1 => match vs with
    | [v] => ∀ d H2, H1 d = none → H2 = upd H1 d (.xd [(f, v)]) → Q (.ref C) (some d) H2
    | _ => False := h
  refine PySem.W.callWith_KW0 (h₀ := X.base) I.ok.mod.kin T.kC hall (thn (hk.run pos pins s σ H _ I h0) fun us s1 ⟨vs, H1, I1, r1, q1⟩ => ⟨I1.kIn, ?_⟩) hpl
  cases vs with
  | nil => exact q1.elim
  | cons v vs =>
  cases vs with
  | cons v2 vs => exact q1.elim
  | nil =>
  rw [hks]
  cases r1 with
  | @cons _ u _ ur ru rn =>
    cases rn
    show wpAny _ _ (call (.ref C) [] [(f, u)]) _ _ _
    obtain ⟨hp, g, dr, tk, os⟩ := s1
    have up : hp.objs.size ≤ hp.objs.size + 1 := Nat.le_succ _
    have hn : H1 (hp.objs.size + 1) = none := I1.hok.fresh up
    have kk : ∀ b o, hp.get? b = some o → ((hp.push (PySem.W.kdv_tup [])).push (PySem.HandSPX.excO C hp.objs.size)).get? b = some o := fun b o e => Heap.get?_push_of_some _ (Heap.get?_push_of_some _ e)
    have hget : ((hp.push (PySem.W.kdv_tup [])).push (PySem.HandSPX.excO C hp.objs.size)).get? (hp.objs.size + 1) = some (PySem.HandSPX.excO C hp.objs.size) := by heap_get
    have I2 : Inv X pins σ (upd H1 (hp.objs.size + 1) (exo (hp.objs.size + 1) C none)) ⟨(hp.push (PySem.W.kdv_tup [])).push (PySem.HandSPX.excO C hp.objs.size), g, dr, tk, os⟩ :=
      I1.laid (t' := tk) (a := hp.objs.size + 1) (o := exo (hp.objs.size + 1) C none) (h' := (hp.push (PySem.W.kdv_tup [])).push (PySem.HandSPX.excO C hp.objs.size)) kk up (exo_ok hget)
    have r2 : Vals [V.ref (hp.objs.size + 1), v] [Value.ref (hp.objs.size + 1), u] := .cons rfl (.cons ru .nil)
    refine wpAny_call (call_made hbm (I1.kIn _ _ hC) (PySem.W.looks_findIn I1.kIn iC) (fun self => PySem.W.bind_fn I1.kIn self tI)
      (codeAny_mono (F1.run _ X.stack _ _ ⟨[Value.ref (hp.objs.size + 1)], [(f, u)]⟩ [Value.ref (hp.objs.size + 1), u] _ (fun v' H' => v' = .non ∧ ∃ dx, H1 dx = none ∧ dx ≠ hp.objs.size + 1 ∧ H' = upd (upd (upd H1 (hp.objs.size + 1) (exo (hp.objs.size + 1) C none)) dx (exd dx [(f, v)])) (hp.objs.size + 1) (exo (hp.objs.size + 1) C (some dx))) (fun _ _ _ => False) (hr.make C [] [(f, u)]) (I2.env0.make C [] [(f, u)]) (hb _ _ _) r2
        ⟨_, v, rfl, upd_same, fun dx H' n ne e => ⟨rfl, dx, by rw [upd_ne ne] at n; exact n, ne, e⟩⟩) fun r s' hq' => ?_))
    cases r with
    | error er =>
      exfalso
      have hq' : L2.CX X.prog X.w X.stack _ _ (fun _ _ _ => False) er s' := hq'
      obtain ⟨_, _, _, _, _, _, _, _, _, _, _, _, z⟩ := hq'
      exact z
    | ok fl =>
      cases fl with
      | ret u' =>
        obtain ⟨v', H2, os2, bare2, un2, hok2, rv, ev, dx, ndx, nea, eH⟩ := hq'
        subst ev
        obtain ⟨h2, g2, d2, t2, os'⟩ := s'
        have ea : H2 (hp.objs.size + 1) = some (exo (hp.objs.size + 1) C (some dx)) := by rw [eH, upd_same]
        have ed : H2 dx = some (exd dx [(f, v)]) := by rw [eH, upd_ne nea, upd_same]
        refine ⟨rv, mk_end (raises_own T.exC T.tyC) I1 up kk un2 hok2 os2 bare2 ea ed ndx (q1 dx _ ndx ?_)⟩
        funext b
        by_cases hbd : b = dx
        · rw [hbd, upd_same, upd_same]
        · rw [upd_ne hbd, upd_ne hbd]
          by_cases hba : b = hp.objs.size + 1
          · rw [hba, del_same, hn]
          · rw [del_ne hba, eH, upd_ne hba, upd_ne hbd, upd_ne hba]
      | next => exact False.elim hq'
      | brk => exact False.elim hq'
      | cont => exact False.elim hq'
end
end Dl.KwX
/-! ### isinstance(e, T), e.f of a held error that has a dict -/
namespace Dl.KwX
open PySem PySem.Spec PySem.Calls PyProof.Rows L2
section
variable {prog : Program} {w : World} {A : Around} {E : Value → Shared → Prop} {s : Shared} {K : PySem.W.Frag} {x D : Addr} {ox : Obj} {od : Option Obj}
theorem find_data {C : Addr} {n : Str} {a g : Value} (hc : (PySem.W.clsIn K C).isSome = true) (ha : PySem.W.findIn K (.ref C) n = some (some a)) (hg : PySem.W.specialIn K a "__get__" = some (some g)) (ht : PySem.W.takesIn K a = some true) : PySem.W.findObj K C od n = some (.bind g a) := by
  obtain ⟨cd, hcd⟩ := Option.isSome_iff_exists.mp hc
  unfold PySem.W.findObj
  rw [hcd, Option.bind_some, ha, Option.bind_some]
  simp [hg, ht]
theorem kin_any {Q : Option Value → Shared → Prop} (C : L2.ExcC K D) (X : K.In s.heap) (I : PySem.W.InstAt s.heap x ox D od) (h : Q (some (.ref D)) { s with toks := s.toks + 1 }) : wpAny (model prog w) A (getAttr? (.ref x) "__class__") Q E s := by
  have hf : PySem.W.findObj K D od "__class__" = some (.bind (.builtin "getset_descriptor.__get__") (.builtin "object.__class__")) := find_data (by obtain ⟨cd, hc, _⟩ := PySem.W.any_some C.hd; rw [hc]; rfl) C.ha C.hn C.ht
  obtain ⟨hp, gs, dr, tk, os⟩ := s
  have lt := I.type (M := model prog w)
  have lg := PySem.W.looks_findIn (M := model prog w) X C.hg
  have lk := PySem.W.looks_findIn (M := model prog w) X C.hk
  have lf := PySem.W.looks_find (M := model prog w) X I hf
  have isB : PySem.W.Looks (model prog w) hp (isInstance (.ref x) (.type "BaseException")) true := lt.andThen (PySem.W.looks_subIn X C.hs)
  have z0 : (false && onTheHeap (Value.builtin "BaseException.__getattribute__")) = false := rfl
  have z2 : (Value.builtin "BaseException.__getattribute__" == Value.builtin "object.__getattribute__") = false := by decide +kernel
  have z1 : (onTheHeap (Value.ref D) && Value.builtin "BaseException.__getattribute__" == Value.builtin "object.__getattribute__") = false := by rw [z2]; rfl
  unfold getAttr? getAttrBy? getAttrBy
  refine wpAny_bind (wpAny_mkText (wpAny_bind (wpAny_attempt (wpAny_holding (wpAny_bind (lt.at (wpAny_bind (lg.at ?_))))))))
  show wpAny _ _ (if (onTheHeap (Value.ref D) && Value.builtin "BaseException.__getattribute__" == Value.builtin "object.__getattribute__") = true then _ else _) _ _ _
  rw [z1, if_neg Bool.false_ne_true]
  unfold getAttrByItsOwn hookBefore
  refine wpAny_bind ?_
  rw [if_pos (show onTheHeap (Value.ref D) = true from rfl)]
  refine lk.at ?_
  refine wpAny_bind (wpAny_attempt (wpAny_holding ?_))
  unfold callGetattribute
  rw [z0, if_neg Bool.false_ne_true]
  unfold boundAndCalled
  rw [PySem.F.excAttr_ValueError.ga.bind (.ref x)]
  refine wpAny_bind (wpAny_pure ?_)
  show wpAny _ _ (call (.builtin "BaseException.__getattribute__") [.ref x, .str "__class__" tk]) _ _ _
  refine wpAny_call (codeAny_call_builtin PySem.F.excAttr_ValueError.ga.plain PySem.F.entry_bexc_ga ?_)
  refine @PySem.W.check_slot (model prog w) _ _ ⟨hp, gs, dr, tk + 1, os⟩ "BaseException.__getattribute__" "BaseException" "__getattribute__" (.ref x) [.str "__class__" tk] [] _ (by decide +kernel) (by decide +kernel) isB (PySem.F.args_bexc_ga (.ref x) (.str "__class__" tk)) ?_
  unfold Builtin.«object.__getattribute__»
  refine wpAny_bind (wpAny_of_eq (a := ((Value.ref x : Value), [Value.str "__class__" tk])) (by first | rfl | (simp only [slotArgs]; rfl)) ?_)
  refine wpAny_bind (wpAny_pure (wpAny_bind (lt.at (wpAny_bind (lf.at ?_)))))
  show wpAny _ _ (holding [Value.builtin "object.__class__"] (call (.builtin "getset_descriptor.__get__") [.builtin "object.__class__", .ref x, .ref D]) >>= ret) _ _ _
  refine wpAny_bind (wpAny_holding (wpAny_call (PySem.W.class_get (s := ⟨hp, gs, dr, tk + 1, os⟩) (ox := ox) (od := od) X I C.hm ?_)))
  refine wpAny_pure ?_
  show wpAny _ _ (handedOut (.ref D)) _ _ _
  rw [PySem.W.handedOut_of (v := .ref D) rfl]
  first
    | exact wpAny_pure (wpAny_pure h)
    | exact wpAny_pure h
    | exact wpAny_pure (wpAny_bind (wpAny_pure (wpAny_pure h)))
theorem kitx_any (C : L2.ExcC K D) : PySem.W.KitX K (.ref x) (.ref D) (fun h => PySem.W.InstAt h x ox D od) where
  ty := fun _ _ _ I => I.type
  it := fun _ _ X _ => by
    obtain ⟨cdD, hcD, _⟩ := PySem.W.any_some C.hd
    unfold PySem.W.clsIn at hcD
    split at hcD
    · rename_i c1 d1 cd1 sl1 ho
      intro A1 Q1 E1 s1 k q
      unfold isType loadHead
      exact wpAny_bind (wpAny_loadPart (k _ _ (X _ _ ho)) (wpAny_pure q))
    · cases hcD
  ne := fun h tp dd its n sl X htp => by
    obtain ⟨cdD, hcD, _⟩ := PySem.W.any_some C.hd
    refine Bool.eq_false_iff.mpr fun q => ?_
    have e : D = tp := Value.ref.inj (beq_iff_eq.mp q)
    subst e
    unfold PySem.W.clsIn at hcD
    split at hcD
    · rename_i c1 d1 cd1 sl1 ho
      have z := (X _ _ ho).symm.trans htp
      cases z
    · cases hcD
  ca := fun X I k => kin_any C X I k
end
/-- isinstance(e, c), e the held error, its dict at dd -/
def rIsX (K : PySem.W.Frag) (D a dd : Addr) : List V → Hp → VK → Prop := fun xs H Q => ∃ (fs : List (Str × V)) (c : V) (cv : Value) (b : Bool), H dd = some (.xd fs) ∧ xs = [.ref a, c] ∧ (∀ u, RelV c u → u = cv) ∧ PySem.W.kitOne K (.ref D) cv = some b ∧ Q (.bl b) H
theorem call_isX {X : Cx} {a D dd : Addr} {oe : Obj} {pn : List (Addr × Obj)} (C : L2.ExcC X.K D) (hz : Zc (.ref D) (some dd) oe) (hf : ∃ vs, oe.data = .fields vs) : CallR (X.suite a ((a, oe) :: pn)) (.builtin "isinstance") (rIsX X.K D a dd) := by
  intro pins s σ H xs us Q I r h
  obtain ⟨fs, c, cv, b, hd, rfl, hcv, e, q⟩ := h
  cases r with
  | cons rx rr =>
    cases rr with
    | cons rt rr =>
      cases rr
      cases rx
      have ec := hcv _ rt
      subst ec
      obtain ⟨hget, _⟩ := I.pin (a, oe) (List.mem_append.mpr (.inl List.mem_cons_self))
      obtain ⟨vs, hv⟩ := hf
      have hx : ObjOk X.prog X.w H s.heap dd (.xd fs) := I.hok dd _ hd
      obtain ⟨mA, hns, hr⟩ := hx
      obtain ⟨od, ho, hl⟩ := lookIn_ns hns
      have J : PySem.W.InstAt s.heap a oe D (some od) := ⟨hget, hz.1, by unfold PySem.W.notCls; rw [hv] <;> rfl, by rw [hz.2]; exact ho⟩
      exact PySem.W.kia_one (kitx_any C) I.kIn J e (fun z => nomatch z) fun tk => ⟨.bl b, H, I.kept (t' := tk) fun _ _ z => z, rfl, q⟩
end Dl.KwX
set_option autoImplicit true
/-! The data layer: own errors raised; isinstance of one that is held; the law's def that makes lambdas. -/
namespace Dl
open PySem PySem.Spec PyProof.Rows L2 TL LamX

/-- what is told of an own class over ValueError, made with a text -/
structure ExcK (K : PySem.W.Frag) (mg : Str → Option Value) (x : Str) (C : Addr) : Prop where
  g : mg x = some (.ref C)
  x : PySem.W.excIn K C [.type "ValueError", .type "Exception", .type "BaseException", .type "object"] "ValueError.__new__" = true
  k : PySem.W.keepIn K (.ref C) = true
  b : PySem.W.subIn K (.ref C) (.type "BaseException") = some true
  t : PySem.W.typeIn K (.ref C) = some (.type "type")
def sRaise (c : Nat) : SS := fun r m => .exc c (.own [] []) r m
section
variable {X : Cx} {w : Wi}
theorem ds_raise0 {c : Nat} {C : Addr} {x z : Str} {j : Nat} {p p2 pos rp : Pos} (hc : X.calm = true) (tk : L2.Takes X w.W) (hC : ExcK X.K X.mg x C) (hT : w.T c = C) (hg : Gl X x) (hdb : (x == ("__debug__" : Str)) = false := by decide) :
    DS X w (.Raise (some (.Call (.Name x p) [.Constant (.str z) j p2] [] pos)) none rp) (sRaise c) :=
  PS.imp (L2.ps_raise hc tk (L2.pmk_own PySem.F.excBase_ValueError hC.x hC.g hC.k (raises_own hC.b hC.t) hg hdb)) fun E s H ⟨x, r, m, R, q⟩ => q (.ref C) none s x H R ⟨by rw [hT], .inl ⟨rfl, rfl⟩⟩ .refl
/-- what isn't reached -/
theorem de_never {e : Expr} : DE X w e (fun _ _ => .bad) := ⟨fun _ _ _ _ _ _ ⟨_, _, _, _, q⟩ => q.elim⟩
/-- isinstance(e, T), e the error that the suite holds, at slot i -/
def sIsE (a : Addr) (i : Nat) (b : Bool) : SE := fun r m => match r[i]? with
  | some (some (.val (.cst (.ref a')))) => if a' = a then .ok (.bl b) m else .bad
  | _ => .bad
theorem de_isE {a D : Addr} {oe : Obj} {pn : List (Addr × Obj)} {i : Nat} {b : Bool} {e f : Expr} {c : V} {cv : Value} {p pos : Pos} (C : ExcC X.K D) (hz : Zc (.ref D) none oe) (hf : ∃ vs, oe.data = .fields vs) (hg : Gl (X.suite a ((a, oe) :: pn)) "isinstance") (hm : X.mg "isinstance" = none)
    (he : PE (X.suite a ((a, oe) :: pn)) e (tVar i)) (hc : PE (X.suite a ((a, oe) :: pn)) f (tC c)) (hcv : ∀ u, RelV c u → u = cv) (hk : PySem.W.kitOne X.K (.ref D) cv = some b)
    (hs : starEach [e, f] (X.suite a ((a, oe) :: pn)).env = (false, eval e (X.suite a ((a, oe) :: pn)).env) :: starEach [f] (X.suite a ((a, oe) :: pn)).env := by rfl) (hs' : starEach [f] (X.suite a ((a, oe) :: pn)).env = [(false, eval f (X.suite a ((a, oe) :: pn)).env)] := by rfl) (hpl : (backTo pos (starEach [f] (X.suite a ((a, oe) :: pn)).env)).any (·.1) = false := by rfl) :
    DE (X.suite a ((a, oe) :: pn)) w (.Call (.Name "isinstance" p) [e, f] [] pos) (sIsE a i b) :=
  PE.imp (pe_callB (call_isE C hz hf) hg hm PyProof.Rows.boot_isinstance (pa_cons he (pa_cons hc pa_nil hs') hs) (by decide) (by decide) hs hpl) fun s H Q ⟨x, r, m, R, q⟩ => by
    unfold sIsE at q
    split at q
    · rename_i a' hr
      by_cases ha : a' = a
      · rw [if_pos ha] at q
        subst ha
        obtain ⟨v, A0, h1, h2, _⟩ := slot_at R hr
        cases h2 with
        | val h2 =>
          cases h2
          exact ⟨_, h1, c, cv, b, rfl, hcv, hk, q _ x H R (.bl b) .refl⟩
      · rw [if_neg ha] at q
        exact q.elim
    · exact q.elim
end
/-! ### own errors with a field -/
/-- what is known of an own error class with a field: its own __init__ takes it by its name -/
structure ErrOk (P : Program) (w : World) (K : PySem.W.Frag) (mg : Str → Option Value) (base : Heap) (t : Tf) (c : Nat) (x f : Str) : Prop where
  g : mg x = some (.ref (t.T c))
  oe : OexC K (t.T c)
  fl : t.fld c = f
  fn : ∃ (fI : Addr) (fd : FuncData) (ps : List Str), PySem.W.findIn K (.ref (t.T c)) "__init__" = some (some (.ref fI)) ∧ PySem.W.typeIn K (.ref fI) = some (.type "function") ∧ FnOk P w K mg base (L2.CX P w) 1 fI fd ps (KwX.spInit (t.T c) f) ∧ ∀ (s : Shared) (u v : Value), BindsTo s fd ⟨[u], [(f, v)]⟩ (ps.zip [u, v])
/-- .. its def in the text -/
structure InitIs (K : PySem.W.Frag) (C : Addr) (qual : Str) (st : Stmt) : Prop where
  ex : ∃ (fI : Addr) (oc kV doc pm cdv ct : Value) (od an : Option Addr) (osl : Array (Option Value)), PySem.W.findIn K (.ref C) "__init__" = some (some (.ref fI)) ∧ PySem.W.typeIn K (.ref fI) = some (.type "function") ∧
    K.lookup fI = some ⟨oc, od, .func (PySem.W.fnOf "__init__" qual (defArgs st) (defBody st) (defScope st) .none kV doc pm an cdv ct), osl⟩ ∧ PySem.W.codeIn K cdv qual = true
theorem ErrOk.of {P : Program} {w : World} {K : PySem.W.Frag} {mg : Str → Option Value} {base : Heap} {t : Tf} {c : Nat} {x f qual : Str} {st : Stmt} {N : List Str} (hg : mg x = some (.ref (t.T c))) (T : OexC K (t.T c)) (fl : t.fld c = f) (D : InitIs K (t.T c) qual st)
    (hno : PySem.W.findIn K (.ref (t.T c)) f = some none) (S : FnScope N ["self", f] (defScope st)) (hN : N.length = 2)
    (hb : ∀ (kV doc pm cdv ct u v : Value) (an : Option Addr), bindArgs (PySem.W.fnOf "__init__" qual (defArgs st) (defBody st) (defScope st) .none kV doc pm an cdv ct) ⟨[u], [(f, v)]⟩ = pure [(("self" : Str), u), (f, v)])
    (hbody : ∀ (fI : Addr) (cdv : Value) (A : Around) (outer : List PySem.Env) (s : Shared) (H : Hp) (E : XK), PSs (cxOf (L2.CX P w) P w K mg base N qual (defScope st) fI cdv A outer s H E) (defBody st) (tSeq (tDrop (tVeI K (tCons (tVar 0) (tCons (tVar 1) tNil)))) (tOst K f (tVar 0) (tVar 1)))) :
    ErrOk P w K mg base t c x f := by
  obtain ⟨fI, oc, kV, doc, pm, cdv, ct, od, an, osl, h1, h2, lk, hcd⟩ := D.ex
  refine ⟨hg, T, fl, fI, _, ["self", f], h1, h2, fn_of (k := 0) lk hcd S (fun vs H Q E h => ?_) (fun A outer s H vs Q E hr h => ⟨_, hbody fI cdv A outer s H E, KwX.init_start T hno hN h⟩), fun s u v => .of_eq (hb kV doc pm cdv ct u v an)⟩
  obtain ⟨a, v, e, _⟩ := h
  rw [e]
  rfl
def sRaiseF (c : Nat) (fe : SE) : SS := fun r m => bindS r (fe r m) fun d m => match d with
  | .int i => .exc c (.int i) r m
  | _ => .bad
/-- isinstance(e, T), e the held error at slot i, its dict at dd -/
def sIsX (a dd : Addr) (i : Nat) (b : Bool) : SE := fun r m => match r[i]? with
  | some (some (.val (.erx a' dd' _ _))) => if a' = a ∧ dd' = dd then .ok (.bl b) m else .bad
  | _ => .bad
/-- e.n -/
def sXf (a dd : Addr) (n : Str) (i : Nat) : SE := fun r m => match r[i]? with
  | some (some (.val (.erx a' dd' f k))) => if a' = a ∧ dd' = dd ∧ f = n then .ok (.int k) m else .bad
  | _ => .bad
section
variable {X : Cx} {w : Wi}
theorem ds_raiseF {t : Tf} {c : Nat} {x f : Str} {e : Expr} {fe : SE} {p kp pos rp : Pos} (hc : X.calm = true) (tk : L2.Takes X w.W) (ht : t = w.tf) (C : ErrOk X.prog X.w X.K X.mg X.base t c x f) (hr : Room 2 X.A) (hg : Gl X x) (he : DE X w e fe) (hdb : (x == ("__debug__" : Str)) = false := by decide)
    (hall : (backToKw pos (keywordEach [⟨some f, e, kp⟩] X.env)).all (·.1.isSome) = true := by rfl) (hks : (backToKw pos (keywordEach [⟨some f, e, kp⟩] X.env)).filterMap (·.1) = [f] := by rfl)
    (hpl : ((backTo pos (starEach [] X.env)).any (·.1) || (backToKw pos (keywordEach [⟨some f, e, kp⟩] X.env)).any (·.1.isNone)) = false := by rfl) :
    DS X w (.Raise (some (.Call (.Name x p) [] [⟨some f, e, kp⟩] pos)) none rp) (sRaiseF c fe) := by
  subst ht
  obtain ⟨fI, fd, ps, h1, h2, F1, hb⟩ := C.fn
  refine PS.imp (L2.ps_raise hc tk (KwX.pmk_kw (k := 1) C.oe h1 h2 F1 hr hb hg C.g he hdb hall hks hpl)) fun E s H ⟨x0, r, m, R, q⟩ => ?_
  refine rd_bindS R q fun d m1 v y H1 R1 p1 st1 q1 dd H2 hn e2 => ?_
  cases d with
  | int i =>
    cases p1
    subst e2
    exact q1 _ _ s _ _ (R1.new hn) ⟨rfl, .inr ⟨dd, .int i, rfl, by rw [show w.fld c = f from C.fl]; exact upd_same, .int i⟩⟩ (StE.new R1 hn).toS
  | _ => exact q1.elim
theorem de_isX {a dd D : Addr} {oe : Obj} {pn : List (Addr × Obj)} {i : Nat} {b : Bool} {e f : Expr} {c : V} {cv : Value} {p pos : Pos} (C : ExcC X.K D) (hz : Zc (.ref D) (some dd) oe) (hf : ∃ vs, oe.data = .fields vs) (hg : Gl (X.suite a ((a, oe) :: pn)) "isinstance") (hm : X.mg "isinstance" = none)
    (he : PE (X.suite a ((a, oe) :: pn)) e (tVar i)) (hc : PE (X.suite a ((a, oe) :: pn)) f (tC c)) (hcv : ∀ u, RelV c u → u = cv) (hk : PySem.W.kitOne X.K (.ref D) cv = some b)
    (hs : starEach [e, f] (X.suite a ((a, oe) :: pn)).env = (false, eval e (X.suite a ((a, oe) :: pn)).env) :: starEach [f] (X.suite a ((a, oe) :: pn)).env := by rfl) (hs' : starEach [f] (X.suite a ((a, oe) :: pn)).env = [(false, eval f (X.suite a ((a, oe) :: pn)).env)] := by rfl) (hpl : (backTo pos (starEach [f] (X.suite a ((a, oe) :: pn)).env)).any (·.1) = false := by rfl) :
    DE (X.suite a ((a, oe) :: pn)) w (.Call (.Name "isinstance" p) [e, f] [] pos) (sIsX a dd i b) :=
  PE.imp (pe_callB (KwX.call_isX C hz hf) hg hm PyProof.Rows.boot_isinstance (pa_cons he (pa_cons hc pa_nil hs') hs) (by decide) (by decide) hs hpl) fun s H Q ⟨x, r, m, R, q⟩ => by
    unfold sIsX at q
    split at q
    · rename_i a' dd' f' k hr
      by_cases ha : a' = a ∧ dd' = dd
      · rw [if_pos ha] at q
        obtain ⟨rfl, rfl⟩ := ha
        obtain ⟨v, A0, h1, h2, _⟩ := slot_at R hr
        cases h2 with
        | val h2 =>
          cases h2 with
          | erx hF => exact ⟨_, h1, _, c, cv, b, R.sub _ _ hF, rfl, hcv, hk, q _ x H R (.bl b) .refl⟩
      · rw [if_neg ha] at q
        exact q.elim
    · exact q.elim
theorem de_xf {a dd C : Addr} {oe : Obj} {pn : List (Addr × Obj)} {i : Nat} {n : Str} {e : Expr} {pos : Pos} (T : ExcC X.K C) (hno : PySem.W.findIn X.K (.ref C) n = some none) (hz : Zc (.ref C) (some dd) oe) (hf : ∃ vs, oe.data = .fields vs) (he : PE (X.suite a ((a, oe) :: pn)) e (tVar i))
    (hb : attributeBase e n X.env (eval e X.env) = eval e X.env := by rfl) : DE (X.suite a ((a, oe) :: pn)) w (.Attribute e n pos) (sXf a dd n i) :=
  PE.imp (pe_xf ⟨T.hg, T.hk, T.hs, T.hd⟩ hno hz hf he hb) fun s H Q ⟨x, r, m, R, q⟩ => by
    unfold sXf at q
    split at q
    · rename_i a' dd' f' k hr
      by_cases ha : a' = a ∧ dd' = dd ∧ f' = n
      · rw [if_pos ha] at q
        obtain ⟨rfl, rfl, rfl⟩ := ha
        obtain ⟨v, A0, h1, h2, _⟩ := slot_at R hr
        cases h2 with
        | val h2 =>
          cases h2 with
          | erx hF => exact ⟨_, h1, rfl, rfl, dd', _, .int k, rfl, R.sub _ _ hF, by simp, q _ x H R (.int k) .refl⟩
      · rw [if_neg ha] at q
        exact q.elim
    · exact q.elim
end
/-! ### l.index(e) -/
def idxD (l : List D) (d : D) : Option Nat := l.findIdx? fun y => eqD y d
def fIdx : D → List D → Sto → R D
  | .lst l, [d], m => if flatD d = true ∧ l.all flatD = true then (match idxD l d with
    | some j => .ok (.int (j : Nat)) m
    | none => .bad) else .bad
  | _, _, _ => .bad
theorem flat_idx {F : Hp} {io : List Addr} {d : D} {v : V} (r : Rep F io d v) (fd : flatD d = true) : ∀ {l : List D} {vs : List V} {j : Nat}, Reps F io l vs → l.all flatD = true → idxD l d = some j → ∃ z, vs[j]? = some z ∧ eqV z v = true ∧ ∀ (k : Nat) (z' : V), k < j → vs[k]? = some z' → eqV z' v = false
  | _, _, j, .nil, _, h => by cases h
  | d' :: l, v' :: vs, j, .cons r' t, f, h => by
    rw [List.all_cons, Bool.and_eq_true] at f
    have e1 := (flat_rep r' f.1).2 d fd v r
    unfold idxD at h
    rw [List.findIdx?_cons] at h
    by_cases hd : eqD d' d = true
    · rw [if_pos hd] at h
      cases h
      exact ⟨v', rfl, e1.trans hd, fun k z' hk _ => absurd hk (Nat.not_lt_zero _)⟩
    · rw [if_neg hd] at h
      cases hj : l.findIdx? (fun y => eqD y d) with
      | none => rw [hj] at h; cases h
      | some j' =>
        rw [hj] at h
        cases h
        obtain ⟨z, h1, h2, h3⟩ := flat_idx r fd t f.2 hj
        refine ⟨z, by simpa using h1, h2, fun k z' hk hz => ?_⟩
        cases k with
        | zero =>
          cases hz
          rw [e1]
          exact Bool.eq_false_iff.mpr hd
        | succ k => exact h3 k z' (Nat.lt_of_succ_lt_succ hk) (by simpa using hz)
section
variable {X : Cx} {w : Wi} {a o : Expr} {apos cpos : Pos} {fa fo : SE}
theorem cm_idx (K : PySem.W.Frag) : CmM pw w fIdx (rIndex K) := by
  intro x e m s H Q d v ds vs R pd ps h
  unfold fIdx at h
  split at h
  · rename_i l d'
    obtain ⟨⟨f1, f2⟩, h⟩ := Fin.ite h
    split at h
    · rename_i j hj
      obtain ⟨p, us, rfl, hp, q⟩ := pd.lst R
      obtain ⟨v', rfl, pv⟩ := ps.one
      have rv := pv.flat f1
      obtain ⟨z, h1, h2, h3⟩ := flat_idx rv f1 q f2 hj
      exact ⟨p, us, v', j, z, rfl, rfl, SqL.of hp, (flat_rep rv f1).1, (flat_reps rv f1 q f2).1, h1, h2, h3, Fin.here R h (.int _)⟩
    · exact h.elim
  · exact h.elim
theorem de_idx (ho : DK X w o fo) (ha : DK X w a fa) (hs : starEach [a] X.env = [(false, eval a X.env)] := by rfl) (hbase : attributeBase o "index" X.env (eval o X.env) = eval o X.env := by rfl)
    (hfew : ((backTo cpos (starEach [a] X.env)).all (fun x => !x.1) && (backToKw cpos (keywordEach [] X.env)).all (fun x => x.1.isSome)
      && decide ([a].length + ([] : List Keyword).length + (if ([] : List Keyword).isEmpty then 0 else 1) < 30)) = true := by rfl)
    (hline : (apos.endLine == cpos.line) = true := by rfl) (hpl : (backTo cpos (starEach [] X.env)).any (·.1) = false := by rfl) : DE X w (.Call (.Attribute o "index" apos) [a] [] cpos) (sMeth "list" fIdx fo (aCons fa aNil)) :=
  de_bm PySem.F.plainAttrs_list PySem.F.slot_list_index PySem.F.type_list_index mt_index (cm_idx _) ho (dk_cons ha dk_nil hs) (by decide) hbase hfew hline hs hpl
end
/-! ### the law's own def, when it makes lambdas -/
def spLawT (K : PySem.W.Frag) (p : Addr) : Sp := fun vs H Q _ => ∃ (a : Addr) (ns : List Int), vs = [.ref a] ∧ ns.length ≤ 63 ∧ SqL K H a (ns.map V.int) ∧ H p = some (.tbl #[]) ∧ ∀ H', Q (.bl true) H'
/-- what the rest of the law's def comes to -/
def LawOkT (N : List Str) (seed : Int) (g : LamC → SS) : Prop := ∀ (C : LamC) (a : Addr) (ns : List Int), ns.length ≤ 63 → ∃ m, g C (lawE N a) [.drw (mixS ns seed) ns 0, .tab C.P C.q] = .rt (.bl true) m
theorem law_startT {K : PySem.W.Frag} {w : Wi} {N : List Str} {seed : Int} {g : LamC → SS} (h : LawOkT N seed g) (h2 : 2 ≤ N.length) (C : LamC) {vs : List V} {H : Hp} {Q : VK} {E : XK} {We : L2.St → XK} (hs : spLawT K C.P vs H Q E) :
    tSeq (tAsg (tCallS (spMix K) We (tCons (tVar 0) (tCons (tC (.int seed)) tNil))) (L2.gName 1)) (rdS pw w (g C)) { nx := fun _ H' => Q .non H', rt := Q } (L2.start N vs) H := by
  obtain ⟨a, ns, rfl, hl, hS, hP, q⟩ := hs
  have e0 : L2.start N [.ref a] = some (.ref a) :: none :: List.replicate (N.length - 2) none := by
    unfold L2.start
    obtain ⟨k, hk⟩ : ∃ k, N.length = k + 2 := ⟨N.length - 2, by omega⟩
    rw [hk]
    rfl
  rw [e0]
  refine ⟨_, rfl, a, ns, seed, rfl, hS, fun b p hb hp hpb => ?_⟩
  obtain ⟨m, em⟩ := h C a ns hl
  have nb : b ≠ C.P := fun z => by rw [z, hP] at hb; cases hb
  have np : p ≠ C.P := fun z => by rw [z, hP] at hp; cases hp
  obtain ⟨H', hH⟩ : ∃ H', H' = upd (upd H b (.lst (ns.map V.int))) p (.lst [.int (mixS ns seed), .ref b, .int 0]) := ⟨_, rfl⟩
  have hpb' : H' p = some (.lst [.int (mixS ns seed), .ref b, .int 0]) := by rw [hH, upd_same]
  have hbb : H' b = some (.lst (ns.map V.int)) := by rw [hH, upd_ne (Ne.symm hpb), upd_same]
  have hPP : H' C.P = some (.tbl #[]) := by rw [hH, upd_ne (Ne.symm np), upd_ne (Ne.symm nb), hP]
  show rdS pw w (g C) _ (some (.ref a) :: some (.ref p) :: List.replicate (N.length - 2) none) _
  rw [← hH]
  refine ⟨⟨fun _ => none, [p, C.P], [], [p, b, C.P]⟩, lawE N a, [.drw (mixS ns seed) ns 0, .tab C.P C.q], ⟨fun c o z => (by cases z), ?_, Stos.cons (A := [C.P]) (ObjR.drw hpb' hbb) (Stos.cons (A := []) (ObjR.tab (ps := #[]) hPP True.intro fun pos cv hc => ?_) .nil), ?_, fun _ _ => rfl⟩, ?_⟩
  · refine Vars.cons (A0 := []) (.val (.cst _)) (Vars.cons (A0 := []) (A := []) (.val (.obj rfl)) ?_)
    generalize N.length - 2 = k
    induction k with
    | zero => exact .nil
    | succ k ih => exact .skip ih
  · have z : codeAmong pos [] = some cv := hc
    simp [codeAmong] at z
  · show ([] ++ [p, b, C.P]).Nodup
    simp [hpb, nb, np]
    try exact ⟨fun z => hpb z, fun z => np z⟩
  · rw [em]
    intro v y H2 _ rp _
    cases rp
    exact q H2
section
variable {P : Program} {w : World} {K : PySem.W.Frag} {mg : Str → Option Value} {base : Heap} {k : Nat} {x : Str} {st : Stmt} {N ps : List Str}
theorem law_fnT {f c p : Addr} {lx : Str} {seed : Int} {g : LamC → SS} {t : Tf} {kV doc pm ct oc : Value} {an od : Option Addr} {osl : Array (Option Value)} {Lf : Str → List (Str × Addr) → Nat → LamD}
    (lk : K.lookup f = some ⟨oc, od, .func (PySem.W.fnOf "law" "law" (defArgs st) (defBody st) (defScope st) .none kV doc pm an (.ref c) ct), osl⟩) (hcd : PySem.W.codeIn K (.ref c) "law" = true) (S : FnScope N [lx] (defScope st)) (h : LawOkT N seed g) (h2 : 2 ≤ N.length)
    (hbody : ∀ (A : Around) (outer : List PySem.Env) (s : Shared) (H : Hp) (E : XK), Room k (A.deeper (envOfC "law" (defScope st) s.heap.objs.size f (.ref c))) → PSs (cxOf (L2.CX P w) P w K mg base N "law" (defScope st) f (.ref c) A outer s H E) (defBody st) (tSeq (tAsg (tCallS (spMix K) (WE (t.wi E).W) (tCons (tVar 0) (tCons (tC (.int seed)) tNil))) (L2.gName 1)) (rdS (P, w, mg) (t.wi E) (g ⟨Lf ((envOfC "law" (defScope st) s.heap.objs.size f (.ref c)).qual ++ "<lambda>") (envOfC "law" (defScope st) s.heap.objs.size f (.ref c)).cells, p, (envOfC "law" (defScope st) s.heap.objs.size f (.ref c)).qual ++ "<lambda>"⟩)))) :
    FnOk P w K mg base (L2.CX P w) (k + 1) f (PySem.W.fnOf "law" "law" (defArgs st) (defBody st) (defScope st) .none kV doc pm an (.ref c) ct) [lx] (spLawT K p) :=
  fn_of lk hcd S (fun vs H Q E h => by
    obtain ⟨a, ns, rfl, _⟩ := h
    rfl) fun A outer s H vs Q E hr hs => ⟨_, hbody A outer s H E hr, law_startT h h2 ⟨Lf ((envOfC "law" (defScope st) s.heap.objs.size f (.ref c)).qual ++ "<lambda>") (envOfC "law" (defScope st) s.heap.objs.size f (.ref c)).cells, p, (envOfC "law" (defScope st) s.heap.objs.size f (.ref c)).qual ++ "<lambda>"⟩ hs⟩
end
end Dl
set_option autoImplicit true
/-! The data layer: where a lambda stands in a text. -/
namespace Dl
open PySem PySem.Spec PyProof.Rows L2 TL
def kidsS : Stmt → List Stmt
  | .For _ _ b o _ => b ++ o
  | .While _ b o _ => b ++ o
  | .If _ b o _ => b ++ o
  | _ => []
def exprS : Stmt → List Expr
  | .Assign _ v _ => [v]
  | .Expr v _ => [v]
  | .Return (some v) _ => [v]
  | .If c _ _ _ => [c]
  | .For _ i _ _ _ => [i]
  | _ => []
def kidsE : Expr → List Expr
  | .List es _ => es
  | .Tuple es _ _ => es
  | .BinOp a _ b _ => [a, b]
  | .Call f es _ _ => f :: es
  | .Compare a _ bs _ => a :: bs
  | .BoolOp _ es _ => es
  | .ListComp e gs _ _ => e :: gs.map (·.iter)
  | _ => []
def stAt : List Nat → List Stmt → Stmt
  | [], _ => .Pass ⟨0, 0, 0, 0⟩
  | [i], l => l.getD i (.Pass ⟨0, 0, 0, 0⟩)
  | i :: p, l => stAt p (kidsS (l.getD i (.Pass ⟨0, 0, 0, 0⟩)))
def exAt : List Nat → List Expr → Expr
  | [], _ => .Constant .none 0 ⟨0, 0, 0, 0⟩
  | [i], l => l.getD i (.Constant .none 0 ⟨0, 0, 0, 0⟩)
  | i :: p, l => exAt p (kidsE (l.getD i (.Constant .none 0 ⟨0, 0, 0, 0⟩)))
def lamX : Expr → Arguments × Expr × Scope
  | .Lambda a b s _ => (a, b, s)
  | _ => (⟨[], [], none, [], [], none, []⟩, .Constant .none 0 ⟨0, 0, 0, 0⟩, default)
def isLam : Expr → Bool
  | .Lambda _ _ _ _ => true
  | _ => false
theorem lam_of : ∀ {e : Expr}, isLam e = true → ∃ pos, e = .Lambda (lamX e).1 (lamX e).2.1 (lamX e).2.2 pos := fun {e} h => by
  cases e <;> first | exact ⟨_, rfl⟩ | cases h
section
variable {X : Cx} {w : Wi} [C : LamC] {k : Nat} {p c : Addr} {e : Expr} {lx : Arguments × Expr × Scope}
theorem de_lam0E (hi : isLam e = true) (hx : lamX e = lx) (TB : LamX.TabB X.base X.mg c p) (hcode : X.env.code = .ref c) (hP : C.P = p) (hq : C.q = X.env.qual ++ "<lambda>") (hL : C.L k = ⟨lx.1, lx.2.1, lx.2.2, X.env.qual ++ "<lambda>", cloFrom X.env.cells lx.2.2.names []⟩)
    (hfree0 : ∀ y ∈ lx.2.2.names, y.2 = .free → X.env.scope.names.lookup y.1 = some .cell ∨ X.env.scope.names.lookup y.1 = some .free) (hdef : defaultsOf lx.1 X.env = ([], [])) (hd0 : lx.1.defaults.isEmpty = true) : DE X w e (sLam k) := by
  obtain ⟨pos, he⟩ := lam_of hi
  rw [hx] at he
  rw [he]
  exact de_lam0 TB hcode hP hq hL hfree0 hdef hd0
theorem de_lam1E (hi : isLam e = true) (hx : lamX e = lx) (TB : LamX.TabB X.base X.mg c p) (hcode : X.env.code = .ref c) (hP : C.P = p) (hq : C.q = X.env.qual ++ "<lambda>") (hL : C.L k = ⟨lx.1, lx.2.1, lx.2.2, X.env.qual ++ "<lambda>", cloFrom X.env.cells lx.2.2.names []⟩)
    (hfree0 : ∀ y ∈ lx.2.2.names, y.2 = .free → X.env.scope.names.lookup y.1 = some .cell ∨ X.env.scope.names.lookup y.1 = some .free) (hd : ∃ j cp, lx.1.defaults = [.Constant (.int 0) j cp]) (hk0 : lx.1.kw_defaults = []) : DE X w e (sLam k) := by
  obtain ⟨pos, he⟩ := lam_of hi
  obtain ⟨j, cp, hd⟩ := hd
  rw [hx] at he
  rw [he]
  exact de_lam1 TB hcode hP hq hL hfree0 hd hk0
theorem de_lam0EN {jt : Nat} (hi : isLam e = true) (hx : lamX e = lx) (TB : LamX.TabB X.base X.mg c p) (hcode : X.env.code = .ref c) (hP : C.P = p) (hq : C.q = X.env.qual ++ "<lambda>") (hL : C.L k = ⟨lx.1, lx.2.1, lx.2.2, X.env.qual ++ "<lambda>", cloFrom X.env.cells lx.2.2.names []⟩)
    (hfree0 : ∀ y ∈ lx.2.2.names, y.2 = .free → X.env.scope.names.lookup y.1 = some .cell ∨ X.env.scope.names.lookup y.1 = some .free) (hdef : defaultsOf lx.1 X.env = ([], [])) (hd0 : lx.1.defaults.isEmpty = true) : DE X w e (sLamN jt k) := by
  obtain ⟨pos, he⟩ := lam_of hi
  rw [hx] at he
  rw [he]
  exact de_lam0N TB hcode hP hq hL hfree0 hdef hd0
theorem de_lam1EN {jt : Nat} (hi : isLam e = true) (hx : lamX e = lx) (TB : LamX.TabB X.base X.mg c p) (hcode : X.env.code = .ref c) (hP : C.P = p) (hq : C.q = X.env.qual ++ "<lambda>") (hL : C.L k = ⟨lx.1, lx.2.1, lx.2.2, X.env.qual ++ "<lambda>", cloFrom X.env.cells lx.2.2.names []⟩)
    (hfree0 : ∀ y ∈ lx.2.2.names, y.2 = .free → X.env.scope.names.lookup y.1 = some .cell ∨ X.env.scope.names.lookup y.1 = some .free) (hd : ∃ j cp, lx.1.defaults = [.Constant (.int 0) j cp]) (hk0 : lx.1.kw_defaults = []) : DE X w e (sLamN jt k) := by
  obtain ⟨pos, he⟩ := lam_of hi
  obtain ⟨j, cp, hd⟩ := hd
  rw [hx] at he
  rw [he]
  exact de_lam1N TB hcode hP hq hL hfree0 hd hk0
end
/-! ### classes -/
theorem kit_ref {K : PySem.W.Frag} {D C : Addr} {b : Bool} (hd : PySem.W.hasDictIn K C = true) (ht : PySem.W.typeIn K (.ref C) = some (.type "type")) (hs : PySem.W.subIn K (.ref C) (.ref C) = some true) (h : PySem.W.subIn K (.ref D) (.ref C) = some b) : PySem.W.kitOne K (.ref D) (.ref C) = some b := by
  unfold PySem.W.kitOne
  by_cases e : (Value.ref D == Value.ref C) = true
  · rw [if_pos e]
    have e' : D = C := Value.ref.inj (beq_iff_eq.mp e)
    subst e'
    rw [hs] at h
    exact h
  · rw [if_neg e]
    obtain ⟨cd, hc, _⟩ := PySem.W.any_some hd
    have e2 : ((PySem.W.clsIn K C).isSome && PySem.W.typeIn K (.ref C) == some (.type "type")) = true := by rw [hc, ht] <;> rfl
    unfold PySem.W.kitCls
    dsimp only
    rw [if_pos e2]
    exact h
theorem kit_val {K : PySem.W.Frag} {D : Addr} (h : PySem.W.subIn K (.ref D) (.type "ValueError") = some true) : PySem.W.kitOne K (.ref D) (.type "ValueError") = some true := by
  have e : (Value.ref D == Value.type "ValueError") = false := beq_eq_false_iff_ne.mpr (by intro z; cases z)
  have e2 : PySem.W.kitMeta "ValueError" = true := by decide +kernel
  unfold PySem.W.kitOne
  rw [if_neg (by rw [e]; exact Bool.false_ne_true)]
  unfold PySem.W.kitCls
  dsimp only
  rw [if_pos e2]
  exact h
/-- a class of the text -/
structure ClsF (K : PySem.W.Frag) (mg : Str → Option Value) (x : Str) (C : Addr) : Prop where
  g : mg x = some (.ref C)
  d : PySem.W.hasDictIn K C = true
  t : PySem.W.typeIn K (.ref C) = some (.type "type")
  s : PySem.W.subIn K (.ref C) (.ref C) = some true
/-! ### the telling, evaluated -/
@[simp] theorem ev_isE {r : Env} {m : Sto} {a : Addr} {i : Nat} {b : Bool} (h : r[i]? = some (some (.val (.cst (.ref a))))) : sIsE a i b r m = .ok (.bl b) m := by
  unfold sIsE
  rw [h]
  exact if_pos rfl
@[simp] theorem ev_isX {r : Env} {m : Sto} {a dd : Addr} {i : Nat} {b : Bool} : sIsX a dd i b r m = (match r[i]? with
  | some (some (.val (.erx a' dd' _ _))) => if a' = a ∧ dd' = dd then .ok (.bl b) m else .bad
  | _ => .bad) := rfl
@[simp] theorem ev_xf {r : Env} {m : Sto} {a dd : Addr} {i : Nat} {n : Str} : sXf a dd n i r m = (match r[i]? with
  | some (some (.val (.erx a' dd' f k))) => if a' = a ∧ dd' = dd ∧ f = n then .ok (.int k) m else .bad
  | _ => .bad) := rfl
@[simp] theorem ev_idx {l : List D} {d : D} {m : Sto} : fIdx (.lst l) [d] m = if flatD d = true ∧ l.all flatD = true then (match idxD l d with
    | some j => .ok (.int (j : Nat)) m
    | none => .bad) else .bad := rfl
@[simp] theorem ev_ext {i : Nat} {f : SE} {r : Env} {m : Sto} : sExt i f r m = (match r[i]? with | some (some (.lst l)) => bindS r (f r m) fun d m => (match d with | .lst k => if l.length + k.length ≤ LIM then .nx (r.set i (some (.lst (l ++ k)))) m else .bad | _ => .bad) | _ => .bad) := rfl
theorem ev_kind [LamC] {LT : Nat → Option LamT} {KD : Nat → D → Option D} {fa : SE} {r : Env} {m : Sto} : sKind LT KD fa r m = bindR (fa r m) fun d m1 => toldR LT KD r d m1 := rfl
theorem told_ok [C : LamC] {LT : Nat → Option LamT} {KD : Nat → D → Option D} {r : Env} {m1 m2 : Sto} {k : Nat} {q : LamT} {ds : List D} {d2 : D} (h1 : LT k = some q) (h2 : capE q.js r = some ds) (h3 : q.f (lamE q ds) m1 = .ok d2 m2) : toldR LT KD r (.fn k (C.L k)) m1 = .ok (.tup [.str [], .int 0]) m2 := by
  unfold toldR
  dsimp only
  rw [if_pos rfl, h1]
  dsimp only
  rw [h2]
  dsimp only
  rw [h3]
theorem told_exc [C : LamC] {LT : Nat → Option LamT} {KD : Nat → D → Option D} {r : Env} {m1 m2 : Sto} {k c : Nat} {q : LamT} {ds : List D} {v d' : D} (h1 : LT k = some q) (h2 : capE q.js r = some ds) (h3 : q.f (lamE q ds) m1 = .exc c v m2) (h4 : KD c v = some d') : toldR LT KD r (.fn k (C.L k)) m1 = .ok d' m2 := by
  unfold toldR
  dsimp only
  rw [if_pos rfl, h1]
  dsimp only
  rw [h2]
  dsimp only
  rw [h3]
  dsimp only
  rw [h4]
theorem ev_lam [C : LamC] {k : Nat} {r : Env} {m : Sto} (h : m[1]? = some (.tab C.P C.q)) : sLam k r m = .ok (.fn k (C.L k)) m := by
  unfold sLam sLamN
  rw [h]
  exact if_pos ⟨rfl, rfl⟩
theorem ev_lamN [C : LamC] {jt k : Nat} {r : Env} {m : Sto} (h : m[jt]? = some (.tab C.P C.q)) : sLamN jt k r m = .ok (.fn k (C.L k)) m := by
  unfold sLamN
  rw [h]
  exact if_pos ⟨rfl, rfl⟩
/-- the draws' object at 0, the table at 1 -/
theorem Good.tab [C : LamC] {m : Sto} (h : Good [.tab C.P C.q] m) : m[1]? = some (.tab C.P C.q) := by
  obtain ⟨s, cs, p, rfl, _⟩ := h
  rfl
/-! ### the end of a law whose def makes lambdas -/
theorem walkT {l : PySem.W.OpenLaw} {k : Nat} {q : Program} {loose : List Str} {XP : (Str → Option Value) → Heap → Prop} {YP : World → Heap → Prop} {d : DefRec} {K : Params → PySem.W.Frag} (hn : l.most = some 63) (hdf : d.params.defaults = []) (hr : Room k callerA) (hY : ∀ (w : World) (h : Heap), YP w h → (K w.params).In h)
    (F : ∀ (w : World) (mg : Str → Option Value) (fa : Addr) (h : Heap), YP w h → (K w.params).In h → h.Ns mainGlobals mg → mg d.name = some (.ref fa) →
      ∃ (fd : FuncData) (cL pL : Addr), h.get? pL = some { cls := .none, data := .fields #[] } ∧ (K w.params).lookup pL = none ∧ PySem.W.CodeHd h cL pL ∧ (∀ (s : Shared) (u : Value), BindsTo s fd ⟨[u], []⟩ [("_law_script", u)]) ∧
        ∀ base : Heap, (K w.params).In base → base.Ns mainGlobals mg → LamX.TabB base mg cL pL → FnOk l.prog w (K w.params) mg base (L2.CX l.prog w) k fa fd ["_law_script"] (spLawT (K w.params) pL)) :
    PySem.W.WalkO q loose XP YP l.row.toRowW d [] (fun f vs => PySem.call f vs) :=
  LamX.walk_ofTs (n := 63) (k := k) (x := "_law_script") (CX := fun w => L2.CX l.prog w) hn (by decide) hdf hr hY (fun w mg fa h Y KX G hmg => by
    obtain ⟨fd, cL, pL, h1, h2, h3, hb, hF⟩ := F w mg fa h Y KX G hmg
    refine ⟨fd, [(cL, pL)], spLawT (K w.params) pL, ?_, ?_, ?_, hb, fun H a ns hl hbits hH hS => ⟨a, ns, rfl, hl, hS, hH (cL, pL) (by simp), fun _ => rfl⟩, fun base hK hN hTB => hF base hK hN (hTB (cL, pL) (by simp))⟩
    · intro p hp; rw [List.mem_singleton.mp hp]; exact h1
    · intro p hp; rw [List.mem_singleton.mp hp]; exact h2
    · intro p hp; rw [List.mem_singleton.mp hp]; exact h3) fun _ _ _ _ _ ⟨_, _, _, _, _, _, _, _, _, _, _, _, z⟩ => z
end Dl
set_option autoImplicit true
/-! The data layer: a further def that makes lambdas; its table is the store's third object. -/
namespace Dl
open PySem PySem.Spec PyProof.Rows L2 TL
/-- where the further def's table lies -/
class Lam2C where
  P : Addr
  q : Str
instance : Inhabited LamD := ⟨⟨⟨[], [], none, [], [], none, []⟩, .Constant .none 0 ⟨0, 0, 0, 0⟩, default, "", []⟩⟩
noncomputable section
open Classical in
/-- what a def comes to that makes lambdas, whatever cells they capture -/
def indF [C2 : Lam2C] (N : List Str) (b : LamC → SS) : Fd := fun ds m => if h : ∃ R : R D, ∀ C : LamC, C.P = C2.P → C.q = C2.q → fD N (b C) ds m = R then h.choose else .bad
end
theorem indF_ok [C2 : Lam2C] {N : List Str} {b : LamC → SS} (C : LamC) (hP : C.P = C2.P) (hq : C.q = C2.q) (ds : List D) (m : Sto) : indF N b ds m = .bad ∨ indF N b ds m = fD N (b C) ds m := by
  unfold indF
  by_cases h : ∃ R : R D, ∀ C : LamC, C.P = C2.P → C.q = C2.q → fD N (b C) ds m = R
  · rw [dif_pos h]
    exact .inr (h.choose_spec C hP hq).symm
  · rw [dif_neg h]
    exact .inl rfl
theorem indF_eq [C2 : Lam2C] {N : List Str} {b : LamC → SS} {ds : List D} {m : Sto} {R : R D} (h : ∀ C : LamC, C.P = C2.P → C.q = C2.q → fD N (b C) ds m = R) : indF N b ds m = R := by
  have hx : ∃ R : Dl.R D, ∀ C : LamC, C.P = C2.P → C.q = C2.q → fD N (b C) ds m = R := ⟨R, h⟩
  unfold indF
  rw [dif_pos hx]
  have C0 : LamC := ⟨fun _ => default, C2.P, C2.q⟩
  exact (hx.choose_spec ⟨fun _ => default, C2.P, C2.q⟩ rfl rfl).symm.trans (h ⟨fun _ => default, C2.P, C2.q⟩ rfl rfl)
/-- a def that makes lambdas: its code object is known -/
structure DefIsT (K : PySem.W.Frag) (mg : Str → Option Value) (base : Heap) (x : Str) (st : Stmt) (p : Addr) : Prop where
  ex : ∃ (f c : Addr) (oc kV doc pm ct : Value) (od an : Option Addr) (osl : Array (Option Value)), K.lookup f = some ⟨oc, od, .func (PySem.W.fnOf x x (defArgs st) (defBody st) (defScope st) .none kV doc pm an (.ref c) ct), osl⟩ ∧
    PySem.W.codeIn K (.ref c) x = true ∧ PySem.W.keepIn K (.ref f) = true ∧ mg x = some (.ref f) ∧ LamX.TabB base mg c p
theorem Cal.lam {P : Program} {w : World} {K : PySem.W.Frag} {mg : Str → Option Value} {base : Heap} {k : Nat} {x : Str} {st : Stmt} {N ps : List Str} {t : Tf} {p : Addr} {φ : Fd} (D : DefIsT K mg base x st p) (S : FnScope N ps (defScope st)) (hb : BindsOk st x ps)
    (hbody : ∀ (f c : Addr) (TB : LamX.TabB base mg c p) (A : Around) (outer : List PySem.Env) (s : Shared) (H : Hp) (E : XK), Room k (A.deeper (envOfC x (defScope st) s.heap.objs.size f (.ref c))) →
      ∃ b : SS, DSs (cxOf (L2.CX P w) P w K mg base N x (defScope st) f (.ref c) A outer s H E) (t.wi E) (defBody st) b ∧ ∀ ds m, ds.length = ps.length → φ ds m = .bad ∨ φ ds m = fD N b ds m) :
    Cal P w K mg base (k + 1) x ps.length t φ := by
  obtain ⟨f, c, oc, kV, doc, pm, ct, od, an, osl, lk, hcd, hk, hm, TB⟩ := D.ex
  refine ⟨f, _, ps, fn_of lk hcd S (fun vs H Q E h => h.1) (fun A outer s H vs Q E hr h => ?_), hm, hk, (fun_mk (st := st) lk hcd hk).binds hb⟩
  obtain ⟨b, hd, hi⟩ := hbody f c TB A outer s H E hr
  refine ⟨_, hd, ?_⟩
  obtain ⟨hl, x, m, ds, R, p, q⟩ := h
  rcases hi ds m (by rw [p.length]; exact hl) with e | e
  · rw [e] at q
    exact q.elim
  · rw [e] at q
    exact ⟨x, _, m, R.start p, FinS.of_call rfl R q⟩
/-! ### the law's own def beside it -/
def spLawT2 (K : PySem.W.Frag) (p p2 : Addr) : Sp := fun vs H Q _ => ∃ (a : Addr) (ns : List Int), vs = [.ref a] ∧ ns.length ≤ 63 ∧ SqL K H a (ns.map V.int) ∧ H p = some (.tbl #[]) ∧ H p2 = some (.tbl #[]) ∧ p ≠ p2 ∧ ∀ H', Q (.bl true) H'
def LawOkT2 (N : List Str) (seed : Int) (g : LamC → Lam2C → SS) : Prop := ∀ (C : LamC) (C2 : Lam2C) (a : Addr) (ns : List Int), ns.length ≤ 63 → ∃ m, g C C2 (lawE N a) [.drw (mixS ns seed) ns 0, .tab C.P C.q, .tab C2.P C2.q] = .rt (.bl true) m
theorem tab_ob {pw : PWd} {F : Hp} {io : List Addr} {H : Hp} {p : Addr} {q : Str} (h : H p = some (.tbl #[])) : ObjR pw F io H (.tab p q) p [p] := by
  refine .tab (ps := #[]) h True.intro fun pos cv hc => ?_
  have z : codeAmong pos [] = some cv := hc
  simp [codeAmong] at z
theorem law_startT2 {pw : PWd} {K : PySem.W.Frag} {w : Wi} {N : List Str} {seed : Int} {g : LamC → Lam2C → SS} (h : LawOkT2 N seed g) (h2 : 2 ≤ N.length) (C : LamC) (C2 : Lam2C) {vs : List V} {H : Hp} {Q : VK} {E : XK} {We : L2.St → XK} (hs : spLawT2 K C.P C2.P vs H Q E) :
    tSeq (tAsg (tCallS (spMix K) We (tCons (tVar 0) (tCons (tC (.int seed)) tNil))) (L2.gName 1)) (rdS pw w (g C C2)) { nx := fun _ H' => Q .non H', rt := Q } (L2.start N vs) H := by
  obtain ⟨a, ns, rfl, hl, hS, hP, hP2, hne, q⟩ := hs
  have e0 : L2.start N [.ref a] = some (.ref a) :: none :: List.replicate (N.length - 2) none := by
    unfold L2.start
    obtain ⟨k, hk⟩ : ∃ k, N.length = k + 2 := ⟨N.length - 2, by omega⟩
    rw [hk]
    rfl
  rw [e0]
  refine ⟨_, rfl, a, ns, seed, rfl, hS, fun b p hb hp hpb => ?_⟩
  obtain ⟨m, em⟩ := h C C2 a ns hl
  have nb : b ≠ C.P := fun z => by rw [z, hP] at hb; cases hb
  have np : p ≠ C.P := fun z => by rw [z, hP] at hp; cases hp
  have nb2 : b ≠ C2.P := fun z => by rw [z, hP2] at hb; cases hb
  have np2 : p ≠ C2.P := fun z => by rw [z, hP2] at hp; cases hp
  obtain ⟨H', hH⟩ : ∃ H', H' = upd (upd H b (.lst (ns.map V.int))) p (.lst [.int (mixS ns seed), .ref b, .int 0]) := ⟨_, rfl⟩
  have hpb' : H' p = some (.lst [.int (mixS ns seed), .ref b, .int 0]) := by rw [hH, upd_same]
  have hbb : H' b = some (.lst (ns.map V.int)) := by rw [hH, upd_ne (Ne.symm hpb), upd_same]
  have hPP : H' C.P = some (.tbl #[]) := by rw [hH, upd_ne (Ne.symm np), upd_ne (Ne.symm nb), hP]
  have hPP2 : H' C2.P = some (.tbl #[]) := by rw [hH, upd_ne (Ne.symm np2), upd_ne (Ne.symm nb2), hP2]
  show rdS pw w (g C C2) _ (some (.ref a) :: some (.ref p) :: List.replicate (N.length - 2) none) _
  rw [← hH]
  refine ⟨⟨fun _ => none, [p, C.P, C2.P], [], [p, b, C.P, C2.P]⟩, lawE N a, [.drw (mixS ns seed) ns 0, .tab C.P C.q, .tab C2.P C2.q], ⟨fun c o z => (by cases z), ?_, Stos.cons (A := [C.P, C2.P]) (ObjR.drw hpb' hbb) (Stos.cons (A := [C2.P]) (tab_ob hPP) (Stos.cons (A := []) (tab_ob hPP2) .nil)), ?_, fun _ _ => rfl⟩, ?_⟩
  · refine Vars.cons (A0 := []) (.val (.cst _)) (Vars.cons (A0 := []) (A := []) (.val (.obj rfl)) ?_)
    generalize N.length - 2 = k
    induction k with
    | zero => exact .nil
    | succ k ih => exact .skip ih
  · show ([] ++ [p, b, C.P, C2.P]).Nodup
    simp [hpb, nb, np, nb2, np2, hne]
  · rw [em]
    intro v y H2 _ rp _
    cases rp
    exact q H2
section
variable {P : Program} {w : World} {K : PySem.W.Frag} {mg : Str → Option Value} {base : Heap} {k : Nat} {x : Str} {st : Stmt} {N ps : List Str}
theorem law_fnT2 {f c p p2 : Addr} {q2 lx : Str} {seed : Int} {g : LamC → Lam2C → SS} {t : Tf} {kV doc pm ct oc : Value} {an od : Option Addr} {osl : Array (Option Value)} {Lf : Str → List (Str × Addr) → Nat → LamD}
    (lk : K.lookup f = some ⟨oc, od, .func (PySem.W.fnOf "law" "law" (defArgs st) (defBody st) (defScope st) .none kV doc pm an (.ref c) ct), osl⟩) (hcd : PySem.W.codeIn K (.ref c) "law" = true) (S : FnScope N [lx] (defScope st)) (h : LawOkT2 N seed g) (h2 : 2 ≤ N.length)
    (hbody : ∀ (A : Around) (outer : List PySem.Env) (s : Shared) (H : Hp) (E : XK), Room k (A.deeper (envOfC "law" (defScope st) s.heap.objs.size f (.ref c))) → PSs (cxOf (L2.CX P w) P w K mg base N "law" (defScope st) f (.ref c) A outer s H E) (defBody st) (tSeq (tAsg (tCallS (spMix K) (WE (t.wi E).W) (tCons (tVar 0) (tCons (tC (.int seed)) tNil))) (L2.gName 1)) (rdS (P, w, mg) (t.wi E) (g ⟨Lf ((envOfC "law" (defScope st) s.heap.objs.size f (.ref c)).qual ++ "<lambda>") (envOfC "law" (defScope st) s.heap.objs.size f (.ref c)).cells, p, (envOfC "law" (defScope st) s.heap.objs.size f (.ref c)).qual ++ "<lambda>"⟩ ⟨p2, q2⟩)))) :
    FnOk P w K mg base (L2.CX P w) (k + 1) f (PySem.W.fnOf "law" "law" (defArgs st) (defBody st) (defScope st) .none kV doc pm an (.ref c) ct) [lx] (spLawT2 K p p2) :=
  fn_of lk hcd S (fun vs H Q E h => by
    obtain ⟨a, ns, rfl, _⟩ := h
    rfl) fun A outer s H vs Q E hr hs => ⟨_, hbody A outer s H E hr, law_startT2 h h2 ⟨Lf ((envOfC "law" (defScope st) s.heap.objs.size f (.ref c)).qual ++ "<lambda>") (envOfC "law" (defScope st) s.heap.objs.size f (.ref c)).cells, p, (envOfC "law" (defScope st) s.heap.objs.size f (.ref c)).qual ++ "<lambda>"⟩ ⟨p2, q2⟩ hs⟩
end
theorem walkT2 {l : PySem.W.OpenLaw} {k : Nat} {q : Program} {loose : List Str} {XP : (Str → Option Value) → Heap → Prop} {YP : World → Heap → Prop} {d : DefRec} {K : Params → PySem.W.Frag} (hn : l.most = some 63) (hdf : d.params.defaults = []) (hr : Room k callerA) (hY : ∀ (w : World) (h : Heap), YP w h → (K w.params).In h)
    (F : ∀ (w : World) (mg : Str → Option Value) (fa : Addr) (h : Heap), YP w h → (K w.params).In h → h.Ns mainGlobals mg → mg d.name = some (.ref fa) →
      ∃ (fd : FuncData) (cL pL c2 p2 : Addr), h.get? pL = some { cls := .none, data := .fields #[] } ∧ (K w.params).lookup pL = none ∧ PySem.W.CodeHd h cL pL ∧ h.get? p2 = some { cls := .none, data := .fields #[] } ∧ (K w.params).lookup p2 = none ∧ PySem.W.CodeHd h c2 p2 ∧ pL ≠ p2 ∧ (∀ (s : Shared) (u : Value), BindsTo s fd ⟨[u], []⟩ [("_law_script", u)]) ∧
        ∀ base : Heap, (K w.params).In base → base.Ns mainGlobals mg → LamX.TabB base mg cL pL → LamX.TabB base mg c2 p2 → FnOk l.prog w (K w.params) mg base (L2.CX l.prog w) k fa fd ["_law_script"] (spLawT2 (K w.params) pL p2)) :
    PySem.W.WalkO q loose XP YP l.row.toRowW d [] (fun f vs => PySem.call f vs) :=
  LamX.walk_ofTs (n := 63) (k := k) (x := "_law_script") (CX := fun w => L2.CX l.prog w) hn (by decide) hdf hr hY (fun w mg fa h Y KX G hmg => by
    obtain ⟨fd, cL, pL, c2, p2, h1, h2, h3, g1, g2, g3, hne, hb, hF⟩ := F w mg fa h Y KX G hmg
    refine ⟨fd, [(cL, pL), (c2, p2)], spLawT2 (K w.params) pL p2, ?_, ?_, ?_, hb, fun H a ns hl hbits hH hS => ⟨a, ns, rfl, hl, hS, hH (cL, pL) (by simp), hH (c2, p2) (by simp), hne, fun _ => rfl⟩, fun base hK hN hTB => hF base hK hN (hTB (cL, pL) (by simp)) (hTB (c2, p2) (by simp))⟩
    · intro p hp
      simp only [List.mem_cons, List.not_mem_nil, or_false] at hp
      rcases hp with rfl | rfl
      · exact h1
      · exact g1
    · intro p hp
      simp only [List.mem_cons, List.not_mem_nil, or_false] at hp
      rcases hp with rfl | rfl
      · exact h2
      · exact g2
    · intro p hp
      simp only [List.mem_cons, List.not_mem_nil, or_false] at hp
      rcases hp with rfl | rfl
      · exact h3
      · exact g3) fun _ _ _ _ _ ⟨_, _, _, _, _, _, _, _, _, _, _, _, z⟩ => z
end Dl
set_option autoImplicit true
/-! The data layer: instances with fields: looked at, written. -/
namespace Dl
open PySem PySem.Spec PyProof.Rows L2 TL
def putC (f : Str) (c : Cell) : List (Str × Cell) → List (Str × Cell)
  | [] => [(f, c)]
  | (g, x) :: r => if g = f then (g, c) :: r else (g, x) :: putC f c r
section
variable {pw : PWd} {F : Hp} {io : List Addr} {H : Hp}
theorem lookup_cons_eq {α : Type} {f g : Str} {x : α} {r : List (Str × α)} (h : g = f) : List.lookup f ((g, x) :: r) = some x := by
  subst h
  simp [List.lookup]
theorem lookup_cons_ne {α : Type} {f g : Str} {x : α} {r : List (Str × α)} (h : g ≠ f) : List.lookup f ((g, x) :: r) = List.lookup f r := by
  have e : (f == g) = false := by simpa using fun z : f = g => h z.symm
  simp [List.lookup, e]
theorem Flds.none {f : Str} : ∀ {fs : List (Str × Cell)} {gs : List (Str × V)} {A : List Addr}, Flds pw F io H fs gs A → fs.lookup f = none → gs.lookup f = none
  | _, _, _, .nil, _ => rfl
  | _, _, _, .cons (n := n) c t, h => by
    by_cases e : n = f
    · rw [lookup_cons_eq e] at h; cases h
    · rw [lookup_cons_ne e] at h ⊢
      exact Flds.none t h
theorem Flds.len : ∀ {fs : List (Str × Cell)} {gs : List (Str × V)} {A : List Addr}, Flds pw F io H fs gs A → fs.length = gs.length
  | _, _, _, .nil => rfl
  | _, _, _, .cons _ t => congrArg (· + 1) (Flds.len t)
/-- the field f apart from the others -/
theorem Flds.at (f : Str) : ∀ {fs : List (Str × Cell)} {gs : List (Str × V)} {A : List Addr}, Flds pw F io H fs gs A → ∃ A0 A', A.Perm (A0 ++ A') ∧
    (∀ c, fs.lookup f = some c → ∃ v, gs.lookup f = some v ∧ CellR pw F io H c v A0) ∧
    ∀ {F' io' H'} (_ : Sub F F') (_ : Pfx io io') (_ : Keep A' H H') {c' v' A1}, CellR pw F' io' H' c' v' A1 → ∃ A2, A2.Perm (A1 ++ A') ∧ Flds pw F' io' H' (putC f c' fs) (putF f v' gs) A2
  | _, _, _, .nil => ⟨[], [], List.Perm.refl _, fun c e => by simp [List.lookup] at e, fun hF hi k => fun {c' v' A1} hc => ⟨A1 ++ [], List.Perm.refl _, .cons hc .nil⟩⟩
  | _, _, _, .cons (n := n) (A0 := B0) (A := B) c t => by
    by_cases e : n = f
    · refine ⟨B0, B, List.Perm.refl _, fun c' h => ?_, fun hF hi k => fun {c' v' A1} hc => ⟨A1 ++ B, List.Perm.refl _, ?_⟩⟩
      · rw [lookup_cons_eq e] at h ⊢
        cases h
        exact ⟨_, rfl, c⟩
      · unfold putC putF
        rw [if_pos e, if_pos e]
        exact .cons hc (t.mono hF hi k)
    · obtain ⟨A0, A', p, g, w⟩ := Flds.at f t
      refine ⟨A0, B0 ++ A', ?_, fun c' h => ?_, fun hF hi k => fun {c' v' A1} hc => ?_⟩
      · refine (List.Perm.append_left B0 p).trans ?_
        rw [← List.append_assoc, ← List.append_assoc]
        exact List.Perm.append_right _ List.perm_append_comm
      · rw [lookup_cons_ne e] at h ⊢
        exact g c' h
      · obtain ⟨A3, p3, w3⟩ := w hF hi (fun b hb => k b (List.mem_append_right _ hb)) hc
        refine ⟨B0 ++ A3, ?_, ?_⟩
        · refine (List.Perm.append_left B0 p3).trans ?_
          rw [← List.append_assoc, ← List.append_assoc]
          exact List.Perm.append_right _ List.perm_append_comm
        · unfold putC putF
          rw [if_neg e, if_neg e]
          exact .cons (c.mono hF hi fun b hb => k b (List.mem_append_left _ hb)) w3
end
section
variable {pw : PWd} {x y : Sx pw} {r : Env} {m : Sto} {s : L2.St} {H : Hp}
/-- an instance of the store, apart from the other objects -/
theorem Rel.insAt {n : Nat} {nm : Str} {fs : List (Str × Cell)} (R : Rel x r m s H) (h : m[n]? = some (.ins nm fs)) : ∃ (a dx C : Addr) (gs : List (Str × V)) (A A' : List Addr), x.io[n]? = some a ∧ x.A2.Perm (a :: dx :: A ++ A') ∧ pw.2.2 nm = some (.ref C) ∧ H a = some (.ins C dx gs) ∧ H dx = some (.own a) ∧ Flds pw x.F x.io H fs gs A ∧
    ∀ {F' io' H'} (_ : Sub x.F F') (_ : Pfx x.io io') (_ : Keep A' H H') {o' A1}, ObjR pw F' io' H' o' a A1 → ∃ A2, A2.Perm (A1 ++ A') ∧ Stos pw F' io' H' (m.set n o') x.io A2 := by
  obtain ⟨a, A0, A', e1, pm, ob, wr⟩ := R.sto.at h
  cases ob with
  | ins e0 h1 h2 t => exact ⟨a, _, _, _, _, A', e1, pm, e0, h1, h2, t, wr⟩
/-- a field is set: the instance's record is written, what was its own may be left, A1 is new -/
theorem Rel.setFld {n : Nat} {nm f : Str} {fs : List (Str × Cell)} {c' : Cell} {v' : V} {A1 : List Addr} {x0 : Sx pw} {H0 : Hp} (R : Rel x r m s H) (st0 : StE x0 H0 x H) (hn : ∀ b ∈ A1, H0 b = none) (h : m[n]? = some (.ins nm fs)) (hc : CellR pw x.F x.io H c' v' A1) (hA : ∀ b ∈ A1, x.F b = none ∧ b ∉ x.A1 ++ x.A2) :
    ∃ (a dx C : Addr) (gs : List (Str × V)), x.io[n]? = some a ∧ pw.2.2 nm = some (.ref C) ∧ H a = some (.ins C dx gs) ∧ gs.length = fs.length ∧
      ∃ y : Sx pw, Rel y r (m.set n (.ins nm (putC f c' fs))) s (upd H a (.ins C dx (putF f v' gs))) ∧ StS x0 H0 y (upd H a (.ins C dx (putF f v' gs))) := by
  obtain ⟨a, dx, C, gs, A, A', e1, pm, e0, h1, h2, t, wr⟩ := R.insAt h
  refine ⟨a, dx, C, gs, e1, e0, h1, t.len.symm, ?_⟩
  obtain ⟨A0, B', pA, g, wF⟩ := t.at f
  have nd2 : (a :: dx :: A ++ A').Nodup := (pm.nodup_iff).mp (List.nodup_append.mp R.nd).2.1
  have haA2 : a ∈ x.A2 := pm.mem_iff.mpr (by simp)
  have haF : x.F a = none := R.nF a (List.mem_append_right _ haA2)
  have nda : a ∉ dx :: A ++ A' := (List.nodup_cons.mp nd2).1
  obtain ⟨H', hH⟩ : ∃ H', H' = upd H a (.ins C dx (putF f v' gs)) := ⟨_, rfl⟩
  rw [← hH]
  have up : ∀ b, b ≠ a → H' b = H b := fun b hb => by rw [hH, upd_ne hb]
  have neA : ∀ b ∈ A, b ≠ a := fun b hb e => nda (by rw [← e]; simp [hb])
  have neA' : ∀ b ∈ A', b ≠ a := fun b hb e => nda (by rw [← e]; simp [hb])
  have neA1 : ∀ b ∈ A1, b ≠ a := fun b hb e => (hA b hb).2 (by rw [e]; exact List.mem_append_right _ haA2)
  have hdx : dx ≠ a := fun e => nda (by rw [← e]; simp)
  have subB : ∀ b ∈ B', b ∈ A := fun b hb => pA.mem_iff.mpr (List.mem_append_right _ hb)
  obtain ⟨A3, p3, t3⟩ := wF (F' := x.F) (io' := x.io) (H' := H') (.refl _) (.refl _) (fun b hb o e => by rw [up b (neA b (subB b hb))]; exact e) (hc.mono (.refl _) (.refl _) fun b hb o e => by rw [up b (neA1 b hb)]; exact e)
  obtain ⟨A4, p4, st4⟩ := wr (F' := x.F) (io' := x.io) (H' := H') (.refl _) (.refl _) (fun b hb o e => by rw [up b (neA' b hb)]; exact e) (ObjR.ins (a := a) (dx := dx) (C := C) (x := nm) e0 (by rw [hH, upd_same]) (by rw [up dx hdx]; exact h2) t3)
  have in3 : ∀ b, b ∈ A3 ↔ b ∈ A1 ∨ b ∈ B' := fun b => by rw [p3.mem_iff, List.mem_append]
  have in4 : ∀ b, b ∈ A4 ↔ b = a ∨ b = dx ∨ b ∈ A3 ∨ b ∈ A' := fun b => by rw [p4.mem_iff]; simp [or_assoc]
  have old : ∀ b ∈ A4, b ∈ x.A2 ∨ b ∈ A1 := fun b hb => by
    rcases (in4 b).mp hb with e | e | e | e
    · exact .inl (pm.mem_iff.mpr (by simp [e]))
    · exact .inl (pm.mem_iff.mpr (by simp [e]))
    · rcases (in3 b).mp e with e | e
      · exact .inr e
      · exact .inl (pm.mem_iff.mpr (by simp [subB b e]))
    · exact .inl (pm.mem_iff.mpr (by simp [e]))
  have ndA1 : A1.Nodup := by
    cases hc with
    | val _ => exact List.nodup_nil
    | lst _ _ => simp
    | dct _ _ => simp
  have nd4 : A4.Nodup := by
    refine (p4.nodup_iff).mpr ?_
    have q1 : (dx :: A ++ A').Nodup := (List.nodup_cons.mp nd2).2
    have q2 : (A ++ A').Nodup := (List.nodup_cons.mp q1).2
    have nA : (A0 ++ B').Nodup := (pA.nodup_iff).mp (List.nodup_append.mp q2).1
    have n3 : A3.Nodup := (p3.nodup_iff).mpr (List.nodup_append.mpr ⟨ndA1, (List.nodup_append.mp nA).2.1, fun b hb c hc e => (hA b hb).2 (by subst e; exact List.mem_append_right _ (pm.mem_iff.mpr (by simp [subB _ hc])))⟩)
    have o3 : ∀ b ∈ A3, b ∈ A ∨ b ∈ A1 := fun b hb => ((in3 b).mp hb).elim .inr fun e => .inl (subB b e)
    have ndx : dx ∉ A ++ A' := (List.nodup_cons.mp q1).1
    refine List.nodup_cons.mpr ⟨fun hm => ?_, List.nodup_cons.mpr ⟨fun hm => ?_, List.nodup_append.mpr ⟨n3, (List.nodup_append.mp q2).2.1, fun b hb c hc e => ?_⟩⟩⟩
    · rcases List.mem_cons.mp hm with e | hm
      · exact hdx e.symm
      · rcases List.mem_append.mp hm with hm | hm
        · rcases o3 a hm with e | e
          · exact neA a e rfl
          · exact neA1 a e rfl
        · exact neA' a hm rfl
    · rcases List.mem_append.mp hm with hm | hm
      · rcases o3 dx hm with e | e
        · exact ndx (List.mem_append_left _ e)
        · exact (hA dx e).2 (List.mem_append_right _ (pm.mem_iff.mpr (by simp)))
      · exact ndx (List.mem_append_right _ hm)
    · subst e
      rcases o3 b hb with e | e
      · exact (List.nodup_append.mp q2).2.2 b e b hc rfl
      · exact (hA b e).2 (List.mem_append_right _ (pm.mem_iff.mpr (by simp [hc])))
  have na1 : ∀ b ∈ x.A1, b ≠ a := fun b hb e => (List.nodup_append.mp R.nd).2.2 b hb a haA2 e
  refine ⟨x.w2 A4, ⟨fun b o e => ?_, R.vars.mono (.refl _) (.refl _) fun b hb o e => by rw [up b (na1 b hb)]; exact e, st4, ?_, fun b hb => ?_⟩, ⟨⟨st0.st.F, st0.st.io, fun b o e n => ?_, fun b e => st0.st.there b ?_, fun b e1 e2 => (st0.st.newF b e1 e2).imp id fun z => List.mem_append_right _ z, fun b hb => ?_⟩, fun b hb => .inl (by rw [← st0.a1]; exact hb)⟩⟩
  · rw [up b (ne_of_none (H := x.F) e haF)]
    exact R.sub _ _ e
  · refine List.nodup_append.mpr ⟨(List.nodup_append.mp R.nd).1, nd4, fun b hb c hc e => ?_⟩
    subst e
    rcases old b hc with e | e
    · exact (List.nodup_append.mp R.nd).2.2 b hb b e rfl
    · exact (hA b e).2 (List.mem_append_left _ hb)
  · rcases List.mem_append.mp hb with e | e
    · exact R.nF b (List.mem_append_left _ e)
    · rcases old b e with e | e
      · exact R.nF b (List.mem_append_right _ e)
      · exact (hA b e).1
  · have hb : b ≠ a := fun e' => by
      rcases st0.st.newA a haA2 with z | z
      · exact n (by rw [e']; exact List.mem_append_right _ z)
      · rw [e', z] at e
        cases e
    rw [up b hb]
    exact st0.st.keep b o e fun z => n (List.mem_append_right _ z)
  · by_cases hb : b = a
    · rw [hb, hH, upd_same] at e
      cases e
    · rw [up b hb] at e
      exact e
  · exact (old b hb).elim (st0.st.newA b) fun z => .inr (hn b z)
end

/-! ### a class of the text whose instances have fields -/
structure ClsS (K : PySem.W.Frag) (mg : Str → Option Value) (nm : Str) (C : Addr) : Prop where
  g : mg nm = some (.ref C)
  c : L2.Cls K C
/-- the field f of the object at slot i: a value -/
def fldAt (nm : Str) (i : Nat) (f : Str) (r : Env) (m : Sto) : Option (Nat × Cell) := match r[i]? with
  | some (some (.val (.obj n))) => match m[n]? with
    | some (.ins nm' fs) => if nm' = nm then (fs.lookup f).map fun c => (n, c) else none
    | _ => none
  | _ => none
def sFld (nm : Str) (i : Nat) (f : Str) : SE := fun r m => match fldAt nm i f r m with
  | some (_, .val d) => .ok d m
  | _ => .bad
section
variable {X : Cx} {w : Wi} {x : Sx (pwOf X)} {r : Env} {m : Sto} {s : L2.St} {H : Hp} {nm f : Str} {i n : Nat} {c : Cell} {C : Addr}
theorem fld_inv (h : fldAt nm i f r m = some (n, c)) : r[i]? = some (some (.val (.obj n))) ∧ ∃ fs, m[n]? = some (.ins nm fs) ∧ fs.lookup f = some c := by
  unfold fldAt at h
  split at h
  · rename_i n' hr
    split at h
    · rename_i nm' fs hm
      by_cases e : nm' = nm
      · rw [if_pos e] at h
        subst e
        cases hf : fs.lookup f with
        | none => rw [hf] at h; cases h
        | some c' =>
          rw [hf] at h
          cases h
          exact ⟨hr, fs, hm, hf⟩
      · rw [if_neg e] at h
        cases h
    · cases h
  · cases h
/-- what stands behind a field -/
theorem fld_at (S : ClsS X.K X.mg nm C) (R : Rel x r m s H) (h : fldAt nm i f r m = some (n, c)) : ∃ (a dx : Addr) (gs : List (Str × V)) (v : V) (A0 : List Addr), s[i]? = some (some (.ref a)) ∧ H a = some (.ins C dx gs) ∧ gs.lookup f = some v ∧ CellR (pwOf X) x.F x.io H c v A0 ∧ ∀ b ∈ A0, b ∈ x.A2 := by
  obtain ⟨hr, fs, hm, hf⟩ := fld_inv h
  obtain ⟨v, A0, h1, h2, _⟩ := slot_at R hr
  cases h2 with
  | val h2 =>
    cases h2 with
    | @obj _ a hio =>
      obtain ⟨a', dx, C', gs, A, A', e1, pm, e0, g1, g2, t, _⟩ := R.insAt hm
      rw [hio] at e1
      cases e1
      have eC : C' = C := by
        have e0 : X.mg nm = some (.ref C') := e0
        rw [S.g] at e0
        cases e0
        rfl
      subst eC
      obtain ⟨A0, B', pA, g, _⟩ := t.at f
      obtain ⟨v, l, hc⟩ := g _ hf
      exact ⟨a, dx, gs, v, A0, h1, g1, l, hc, fun b hb => pm.mem_iff.mpr (by simp [pA.mem_iff.mpr (List.mem_append_left _ hb)])⟩
theorem de_fld {e : Expr} {pos : Pos} (S : ClsS X.K X.mg nm C) (hno : NoAttr X.K C f) (he : PE X e (tVar i)) (hb : attributeBase e f X.env (eval e X.env) = eval e X.env := by rfl) : DE X w (.Attribute e f pos) (sFld nm i f) :=
  PE.imp (pe_fld he hb) fun s H Q ⟨x, r, m, R, q⟩ => by
    unfold sFld at q
    split at q
    · rename_i n d h
      obtain ⟨a, dx, gs, v, A0, h1, g1, l, hc, _⟩ := fld_at S R h
      cases hc with
      | val rp => exact ⟨_, h1, a, C, dx, gs, v, rfl, g1, S.c, hno, l, q _ x H R rp .refl⟩
    · exact q.elim
end
/-! ### self.f = e -/
def sSetF (nm : Str) (i : Nat) (f : Str) (fc : SCe) : SS := fun r m => bindS r (fc r m) fun c m => match r[i]? with
  | some (some (.val (.obj n))) => match m[n]? with
    | some (.ins nm' fs) => if nm' = nm ∧ fs.length < 900 then .nx r (m.set n (.ins nm' (putC f c fs))) else .bad
    | _ => .bad
  | _ => .bad
section
variable {X : Cx} {w : Wi} {nm f : Str} {i : Nat} {C : Addr}
theorem ds_setF {o e : Expr} {fc : SCe} {pos pos' : Pos} (S : ClsS X.K X.mg nm C) (hno : NoAttr X.K C f) (ho : PE X o (tVar i)) (he : DC X w e fc) (hs : swapsWith e (some (.Attribute o f pos')) pos.line X.env = pure false := by rfl) :
    DS X w (.Assign [.Attribute o f pos'] e pos) (sSetF nm i f fc) := PS.imp (L2.ps_fld ho he hs) fun E s H ⟨x, r, m, R, q⟩ => by
  refine rdC_bindS R q fun c m1 v y H1 A R1 hc hA st q1 => ?_
  split at q1
  · rename_i n hr
    split at q1
    · rename_i nm' fs hm
      by_cases e1 : nm' = nm ∧ fs.length < 900
      · rw [if_pos e1] at q1
        obtain ⟨rfl, hl⟩ := e1
        obtain ⟨v', A0, h1, h2, _⟩ := slot_at R1 hr
        cases h2 with
        | val h2 =>
          cases h2 with
          | @obj _ a hio =>
            obtain ⟨a', dx, C', gs, e2, e0, g1, hgl, z, R2, st2⟩ := R1.setFld (f := f) st (fun b hb => (hA b hb).2.2) hm hc fun b hb => ⟨(hA b hb).1, (hA b hb).2.1⟩
            rw [hio] at e2
            cases e2
            have eC : C' = C := by
              have e0 : X.mg nm' = some (.ref C') := e0
              rw [S.g] at e0
              cases e0
              rfl
            subst eC
            exact ⟨_, h1, a, C', dx, gs, rfl, g1, S.c, hno, by omega, q1 _ z _ R2 st2⟩
      · rw [if_neg e1] at q1
        exact q1.elim
    · exact q1.elim
  · exact q1.elim
end
end Dl
set_option autoImplicit true
/-! The data layer: expressions that change nothing; a field that is a list of the instance's own. -/
namespace Dl
open PySem PySem.Spec PyProof.Rows L2 TL
structure StQ (x : Sx pw) (H : Hp) (y : Sx pw) (H' : Hp) : Prop where
  st : Stp [] x H y H'
  a1 : y.A1 = x.A1
  a2 : y.A2 = x.A2
section
variable {x y z : Sx pw} {r : Env} {m : Sto} {s : L2.St} {H H1 H2 : Hp}
theorem StQ.refl : StQ x H x H := ⟨.refl, rfl, rfl⟩
theorem StQ.trans (a : StQ x H y H1) (b : StQ y H1 z H2) : StQ x H z H2 := by
  refine ⟨⟨a.st.F.trans b.st.F, a.st.io.trans b.st.io, fun c o e _ => b.st.keep c o (a.st.keep c o e (by simp)) (by simp), fun c e => a.st.there c (b.st.there c e), fun c e1 e2 => ?_, fun c hc => .inl (by rw [← a.a2, ← b.a2]; exact hc)⟩, b.a1.trans a.a1, b.a2.trans a.a2⟩
  by_cases h : y.F c = none
  · rcases b.st.newF c h e2 with q | q
    · exact .inl (a.st.there c q)
    · cases q
  · exact a.st.newF c e1 h
theorem StQ.toE (a : StQ x H y H1) : StE x H y H1 :=
  ⟨⟨a.st.F, a.st.io, fun c o e _ => a.st.keep c o e (by simp), a.st.there, fun c e1 e2 => (a.st.newF c e1 e2).imp id fun q => (by cases q), fun c hc => .inl (by rw [← a.a2]; exact hc)⟩, a.a1⟩
theorem StQ.new {p : Addr} {o : HO} (R : Rel x r m s H) (hp : H p = none) : StQ x H (x.wF (upd x.F p o)) (upd H p o) := by
  have e := StE.new (o := o) R hp
  exact ⟨⟨e.st.F, e.st.io, fun b q h _ => by rw [upd_ne (ne_of_none h hp)]; exact h, e.st.there, fun b h1 h2 => by
    by_cases hb : b = p
    · subst hb; exact .inl hp
    · have h2 : upd x.F p o b ≠ none := h2
      rw [upd_ne hb] at h2
      exact absurd h1 h2, fun b hb => .inl hb⟩, rfl, rfl⟩
end
abbrev Q1 (α : Type) := Env → Sto → Option α
def FinQ {α β : Type} (P : PP pw α β) (x : Sx pw) (r : Env) (m : Sto) (s : L2.St) (H : Hp) (Q : β → Hp → Prop) : Option α → Prop
  | some a => ∀ b y H', Rel y r m s H' → P y H' a b → StQ x H y H' → Q b H'
  | none => False
def rdQ {α β : Type} (P : PP pw α β) (f : Q1 α) (s : L2.St) (H : Hp) (Q : β → Hp → Prop) : Prop := ∃ x r m, Rel x r m s H ∧ FinQ P x r m s H Q (f r m)
abbrev DQ (X : Cx) (e : Expr) (f : Q1 D) : Prop := PE X e (rdQ (PV (pw := pwOf X)) f)
abbrev DQs (X : Cx) (es : List Expr) (g : Q1 (List D)) : Prop := PA X es (rdQ (PL (pw := pwOf X)) g)
def qVar (i : Nat) : Q1 D := fun r _ => match r[i]? with
  | some (some (.val d)) => some d
  | _ => none
def qC (d : D) : Q1 D := fun _ _ => some d
def qAdd (f : Q1 D) (k : Int) : Q1 D := fun r m => match f r m with
  | some (.int i) => some (.int (i + k))
  | _ => none
def qNil : Q1 (List D) := fun _ _ => some []
def qCons (f : Q1 D) (g : Q1 (List D)) : Q1 (List D) := fun r m => match f r m, g r m with
  | some d, some ds => some (d :: ds)
  | _, _ => none
def qTup (g : Q1 (List D)) : Q1 D := fun r m => match g r m with
  | some ds => if ds.length ≤ LIM then some (.tup ds) else none
  | none => none
section
variable {X : Cx} {w : Wi} {e : Expr} {es : List Expr} {f : Q1 D} {g : Q1 (List D)} {pos : Pos}
theorem dq_var {i : Nat} (h : PE X e (tVar i)) : DQ X e (qVar i) := PE.imp h fun s H Q ⟨x, r, m, R, q⟩ => by
  unfold qVar at q
  split at q
  · rename_i d hd
    obtain ⟨v, A0, e1, q1, _⟩ := slot_at R hd
    cases q1 with
    | val rp => exact ⟨v, e1, q v x H R rp .refl⟩
  · exact q.elim
theorem dq_c {v : V} {d : D} (h : PE X e (tC v)) (hr : ∀ F io, Rep F io d v) : DQ X e (qC d) := PE.imp h fun s H Q ⟨x, r, m, R, q⟩ => q v x H R (hr _ _) .refl
theorem dq_int {i : Int} {j : Nat} : DQ X (.Constant (.int i) j pos) (qC (.int i)) := dq_c pe_int fun _ _ => .int i
theorem dq_bl {b : Bool} {j : Nat} : DQ X (.Constant (.bool b) j pos) (qC (.bl b)) := dq_c pe_bl fun _ _ => .bl b
theorem dq_gstrE (l : List Nat) {x y : Str} (hg : Gl X x) (hm : ∃ t, X.mg x = some (.str y t)) (h : y = ⟨l.toArray⟩ := by decide +kernel) (hd : (x == ("__debug__" : Str)) = false := by decide) : DQ X (.Name x pos) (qC (.str l)) := by
  obtain ⟨t, hm⟩ := hm
  exact dq_c (v := .str y) (pe_glob hg hm ⟨t, rfl⟩ hd) fun _ _ => by
    rw [h]
    exact .str l
theorem dq_add {a b : Expr} {k : Int} (ha : DQ X a f) (hb : PE X b (tC (.int k))) (hs : ∀ x y : Sem Value, True := by intros; trivial) : DQ X (.BinOp a .Add b pos) (qAdd f k) := PE.imp (pe_op op_add ha hb) fun s H Q ⟨x, r, m, R, q⟩ => by
  show rdQ PV f s H _
  refine ⟨x, r, m, R, ?_⟩
  unfold qAdd at q
  cases h : f r m with
  | none => rw [h] at q; exact q.elim
  | some d =>
    rw [h] at q
    intro v y H1 R1 p1 st1
    cases d with
    | int i =>
      cases p1
      exact ⟨i, k, rfl, rfl, q _ y H1 R1 (.int _) st1⟩
    | _ => exact q.elim
theorem dqs_nil : DQs X [] qNil := ⟨fun pos pins s σ H Q I ⟨x, r, m, R, q⟩ => pa_nil.run pos pins s σ H Q I (q [] x H R .nil .refl)⟩
theorem dqs_cons (he : DQ X e f) (hr : DQs X es g) (hs : starEach (e :: es) X.env = (false, eval e X.env) :: starEach es X.env := by rfl) : DQs X (e :: es) (qCons f g) := ⟨fun pos pins s σ H Q I ⟨x, r, m, R, q⟩ => (pa_cons he hr hs).run pos pins s σ H Q I (by
  show rdQ PV f σ H _
  refine ⟨x, r, m, R, ?_⟩
  unfold qCons at q
  cases h : f r m with
  | none => rw [h] at q; exact q.elim
  | some d =>
    cases h2 : g r m with
    | none => rw [h, h2] at q; exact q.elim
    | some ds =>
      rw [h, h2] at q
      intro v y H1 R1 p1 st1
      refine ⟨y, r, m, R1, ?_⟩
      rw [h2]
      intro vs z H2 R2 p2 st2
      exact q (v :: vs) z H2 R2 (.cons (p1.mono st2.st.F st2.st.io) p2) (st1.trans st2))⟩
theorem dq_tup {k : Nat} (h : DQs X es g) : DQ X (.Tuple es k pos) (qTup g) := PE.imp (pe_tup h) fun s H Q ⟨x, r, m, R, q⟩ => by
  show rdQ PL g s H _
  refine ⟨x, r, m, R, ?_⟩
  unfold qTup at q
  cases h : g r m with
  | none => rw [h] at q; exact q.elim
  | some ds =>
    rw [h] at q
    dsimp only at q
    intro vs y H1 R1 p1 st1
    by_cases hz : ds.length ≤ LIM
    · rw [if_pos hz] at q
      refine ⟨by rw [← p1.length, ← lim_eq]; exact hz, fun p hp => ?_⟩
      have n := StQ.new (o := .tup vs) R1 hp
      exact q (.ref p) _ _ (R1.new hp) (.tup upd_same (p1.mono n.st.F n.st.io)) (st1.trans n)
    · rw [if_neg hz] at q
      exact q.elim
end
/-- a list field, looked at -/
theorem fld_lst {X : Cx} {x y : Sx (pwOf X)} {r : Env} {m : Sto} {s : L2.St} {H H1 : Hp} {nm f : Str} {C : Addr} {i n : Nat} {l : List D} (S : ClsS X.K X.mg nm C) (R : Rel x r m s H) (h : fldAt nm i f r m = some (n, .lst l)) :
    ∃ (a dx b : Addr) (gs : List (Str × V)) (vs : List V), s[i]? = some (some (.ref a)) ∧ H a = some (.ins C dx gs) ∧ gs.lookup f = some (.ref b) ∧ H b = some (.lst vs) ∧ Reps x.F x.io l vs ∧ b ∈ x.A2 := by
  obtain ⟨a, dx, gs, v, A0, h1, g1, l1, hc, hA⟩ := fld_at S R h
  cases hc with
  | @lst b ds vs hb rp => exact ⟨a, dx, b, gs, vs, h1, g1, l1, hb, rp, hA b (by simp)⟩
/-- self.f[e], f a list -/
def sIxF (nm : Str) (i : Nat) (f : Str) (g : Q1 D) : SE := fun r m => match fldAt nm i f r m, g r m with
  | some (_, .lst l), some (.int k) => (match atI l k with
    | some d => .ok d m
    | none => .bad)
  | _, _ => .bad
/-- self.f[lo:hi], f a list -/
abbrev QO := Q1 (Option Int)
abbrev DQO (X : Cx) (e : Option Expr) (t : QO) : Prop := PO X e (rdQ (pw := pwOf X) (fun _ _ a b => a = b) t)
def qoNone : QO := fun _ _ => some none
def qoSome (f : Q1 D) : QO := fun r m => match f r m with
  | some (.int i) => some (some i)
  | _ => none
def sSlF (nm : Str) (i : Nat) (f : Str) (lo hi : QO) : SE := fun r m => match fldAt nm i f r m, lo r m, hi r m with
  | some (_, .lst l), some a, some b => .ok (.lst (cutL l a b)) m
  | _, _, _ => .bad
section
variable {X : Cx} {w : Wi} {nm f : Str} {i : Nat} {C : Addr} {o e : Expr} {g : Q1 D} {pos apos p2 : Pos}
theorem dqo_none : DQO X none qoNone := ⟨fun pins s σ H Q I ⟨x, r, m, R, q⟩ => po_none.run pins s σ H Q I (q _ x H R rfl .refl)⟩
theorem dqo_some (h : DQ X e g) : DQO X (some e) (qoSome g) := ⟨fun pins s σ H Q I ⟨x, r, m, R, q⟩ => (po_some h).run pins s σ H Q I (by
  refine ⟨x, r, m, R, ?_⟩
  unfold qoSome at q
  cases h : g r m with
  | none => rw [h] at q; exact q.elim
  | some d =>
    rw [h] at q
    intro v y H1 R1 p1 st1
    cases d with
    | int i =>
      cases p1
      exact ⟨i, rfl, q _ y H1 R1 rfl st1⟩
    | _ => exact q.elim)⟩
theorem de_ixF (S : ClsS X.K X.mg nm C) (hno : NoAttr X.K C f) (ho : PE X o (tVar i)) (he : DQ X e g) (hb : attributeBase o f X.env (eval o X.env) = eval o X.env := by rfl) (hs : PlainIx e := by exact fun _ _ => rfl) :
    DE X w (.Subscript (.Attribute o f apos) e pos) (sIxF nm i f g) := PE.imp (pe_ix ix_list (pe_fld ho hb) he hs) fun s H Q ⟨x, r, m, R, q⟩ => by
  unfold sIxF at q
  cases h1 : fldAt nm i f r m with
  | none => rw [h1] at q; exact q.elim
  | some nc =>
    obtain ⟨n, c⟩ := nc
    rw [h1] at q
    cases c with
    | lst l =>
      cases h2 : g r m with
      | none => rw [h2] at q; exact q.elim
      | some d =>
        rw [h2] at q
        cases d with
        | int k =>
          dsimp only at q
          cases h3 : atI l k with
          | none => rw [h3] at q; exact q.elim
          | some d =>
            rw [h3] at q
            obtain ⟨a, dx, b, gs, vs, e1, g1, l1, hb, rp, _⟩ := fld_lst (y := x) (H1 := H) S R h1
            refine ⟨_, e1, a, C, dx, gs, _, rfl, g1, S.c, hno, l1, x, r, m, R, ?_⟩
            rw [h2]
            intro v y H1 R1 p1 st1
            cases p1
            obtain ⟨v, e2, rv⟩ := atI_reps (rp.mono st1.st.F st1.st.io) h3
            exact ⟨b, vs, k, v, rfl, rfl, SqL.of (st1.st.keep b _ hb (by simp)), e2, q v y H1 R1 rv st1.toE⟩
        | _ => exact q.elim
    | _ => exact q.elim
theorem de_slF {lo hi : Option Expr} {tl th : QO} (S : ClsS X.K X.mg nm C) (hno : NoAttr X.K C f) (ho : PE X o (tVar i)) (hl : DQO X lo tl) (hh : DQO X hi th) (hb : attributeBase o f X.env (eval o X.env) = eval o X.env := by rfl) :
    DE X w (.Subscript (.Attribute o f apos) (.Slice lo hi none p2) pos) (sSlF nm i f tl th) := PE.imp (pe_slice sl_any (pe_fld ho hb) hl hh) fun s H Q ⟨x, r, m, R, q⟩ => by
  unfold sSlF at q
  cases h1 : fldAt nm i f r m with
  | none => rw [h1] at q; exact q.elim
  | some nc =>
    obtain ⟨n, c⟩ := nc
    rw [h1] at q
    cases c with
    | lst l =>
      cases h2 : tl r m with
      | none => rw [h2] at q; exact q.elim
      | some a1 =>
        cases h3 : th r m with
        | none => rw [h2, h3] at q; exact q.elim
        | some a2 =>
          rw [h2, h3] at q
          obtain ⟨a, dx, b, gs, vs, e1, g1, l1, hb, rp, _⟩ := fld_lst (y := x) (H1 := H) S R h1
          refine ⟨_, e1, a, C, dx, gs, _, rfl, g1, S.c, hno, l1, x, r, m, R, ?_⟩
          rw [h2]
          intro v y H1 R1 p1 st1
          cases p1
          refine ⟨y, r, m, R1, ?_⟩
          rw [h3]
          intro v z H2 R2 p2 st2
          cases p2
          have st := st1.trans st2
          have q : Fin PV w x r s H Q (.ok (.lst (cutL l a1 a2)) m) := q
          exact .inl ⟨b, vs, rfl, SqL.of (st.st.keep b _ hb (by simp)), Fin.list R2 (Fin.shift st.toE q) (cut_reps (rp.mono st.st.F st.st.io) _ _)⟩
    | _ => exact q.elim
end
end Dl
set_option autoImplicit true
/-! The data layer: a list field written; an own list by +; fields as targets. -/
namespace Dl
open PySem PySem.Spec PyProof.Rows L2 TL
theorem putF_same {f : Str} {v : V} : ∀ {gs : List (Str × V)}, gs.lookup f = some v → putF f v gs = gs
  | [], h => by cases h
  | (k, z) :: gs, h => by
    by_cases e : k = f
    · rw [lookup_cons_eq e] at h
      cases h
      unfold putF
      rw [if_pos e]
    · rw [lookup_cons_ne e] at h
      unfold putF
      rw [if_neg e, putF_same h]
section
variable {pw : PWd} {x : Sx pw} {r : Env} {m : Sto} {s : L2.St} {H : Hp}
/-- the list of a field is written where it stands -/
theorem Rel.ownF {n : Nat} {nm f : Str} {fs : List (Str × Cell)} {l l' : List D} {x0 : Sx pw} {H0 : Hp} (R : Rel x r m s H) (st0 : StE x0 H0 x H) (h : m[n]? = some (.ins nm fs)) (hf : fs.lookup f = some (.lst l)) :
    ∃ (a dx C b : Addr) (gs : List (Str × V)) (vs : List V), x.io[n]? = some a ∧ pw.2.2 nm = some (.ref C) ∧ H a = some (.ins C dx gs) ∧ gs.lookup f = some (.ref b) ∧ H b = some (.lst vs) ∧ Reps x.F x.io l vs ∧
      ∀ vs', Reps x.F x.io l' vs' → ∃ y : Sx pw, Rel y r (m.set n (.ins nm (putC f (.lst l') fs))) s (upd H b (.lst vs')) ∧ StS x0 H0 y (upd H b (.lst vs')) := by
  obtain ⟨a, dx, C, gs, A, A', e1, pm, e0, h1, h2, t, wr⟩ := R.insAt h
  obtain ⟨A0, B', pA, g, wF⟩ := t.at f
  obtain ⟨v, lv, hc⟩ := g _ hf
  cases hc with
  | @lst b ds vs hb rp =>
  refine ⟨a, dx, C, b, gs, vs, e1, e0, h1, lv, hb, rp, fun vs' rp' => ?_⟩
  have nd2 : (a :: dx :: A ++ A').Nodup := (pm.nodup_iff).mp (List.nodup_append.mp R.nd).2.1
  have hbA : b ∈ A := pA.mem_iff.mpr (by simp)
  have hbA2 : b ∈ x.A2 := pm.mem_iff.mpr (by simp [hbA])
  have hbF : x.F b = none := R.nF b (List.mem_append_right _ hbA2)
  have q1 : (dx :: A ++ A').Nodup := (List.nodup_cons.mp nd2).2
  have q2 : (A ++ A').Nodup := (List.nodup_cons.mp q1).2
  have hba : b ≠ a := fun e => (List.nodup_cons.mp nd2).1 (by rw [← e]; simp [hbA])
  have hbd : b ≠ dx := fun e => (List.nodup_cons.mp q1).1 (by rw [← e]; simp [hbA])
  have nA : ([b] ++ B').Nodup := (pA.nodup_iff).mp (List.nodup_append.mp q2).1
  have neB : ∀ c ∈ B', c ≠ b := fun c hc e => (List.nodup_append.mp nA).2.2 b (by simp) c hc e.symm
  have neA' : ∀ c ∈ A', c ≠ b := fun c hc e => (List.nodup_append.mp q2).2.2 b hbA c hc e.symm
  obtain ⟨H', hH⟩ : ∃ H', H' = upd H b (.lst vs') := ⟨_, rfl⟩
  rw [← hH]
  have up : ∀ c, c ≠ b → H' c = H c := fun c hc => by rw [hH, upd_ne hc]
  obtain ⟨A3, p3, t3⟩ := wF (F' := x.F) (io' := x.io) (H' := H') (.refl _) (.refl _) (fun c hc o e => by rw [up c (neB c hc)]; exact e) (CellR.lst (by rw [hH, upd_same]) rp')
  have eg : putF f (V.ref b) gs = gs := putF_same lv
  rw [eg] at t3
  obtain ⟨A4, p4, st4⟩ := wr (F' := x.F) (io' := x.io) (H' := H') (.refl _) (.refl _) (fun c hc o e => by rw [up c (neA' c hc)]; exact e) (ObjR.ins (a := a) (dx := dx) (C := C) (x := nm) e0 (by rw [up a hba.symm]; exact h1) (by rw [up dx hbd.symm]; exact h2) t3)
  have in3 : ∀ c, c ∈ A3 ↔ c ∈ A := fun c => by rw [p3.mem_iff, pA.mem_iff]
  have in4 : ∀ c, c ∈ A4 ↔ c ∈ x.A2 := fun c => by rw [p4.mem_iff, pm.mem_iff]; simp [in3 c]
  have nd3 : A3.Nodup := (p3.nodup_iff).mpr nA
  have nd4 : A4.Nodup := by
    refine (p4.nodup_iff).mpr (List.nodup_cons.mpr ⟨fun hm => (List.nodup_cons.mp nd2).1 ?_, List.nodup_cons.mpr ⟨fun hm => (List.nodup_cons.mp q1).1 ?_, List.nodup_append.mpr ⟨nd3, (List.nodup_append.mp q2).2.1, fun c hc d hd e => (List.nodup_append.mp q2).2.2 c ((in3 c).mp hc) d hd e⟩⟩⟩)
    · rcases List.mem_cons.mp hm with e | hm
      · simp [e]
      · rcases List.mem_append.mp hm with hm | hm
        · simp [(in3 a).mp hm]
        · simp [hm]
    · rcases List.mem_append.mp hm with hm | hm
      · simp [(in3 dx).mp hm]
      · simp [hm]
  have na1 : ∀ c ∈ x.A1, c ≠ b := fun c hc e => (List.nodup_append.mp R.nd).2.2 c hc b hbA2 e
  refine ⟨x.w2 A4, ⟨fun c o e => ?_, R.vars.mono (.refl _) (.refl _) fun c hc o e => by rw [up c (na1 c hc)]; exact e, st4, ?_, fun c hc => ?_⟩, ⟨⟨st0.st.F, st0.st.io, fun c o e n => ?_, fun c e => st0.st.there c ?_, fun c e1 e2 => (st0.st.newF c e1 e2).imp id fun z => List.mem_append_right _ z, fun c hc => st0.st.newA c ((in4 c).mp hc)⟩, fun c hc => .inl (by rw [← st0.a1]; exact hc)⟩⟩
  · rw [up c (ne_of_none (H := x.F) e hbF)]
    exact R.sub _ _ e
  · exact List.nodup_append.mpr ⟨(List.nodup_append.mp R.nd).1, nd4, fun c hc d hd e => (List.nodup_append.mp R.nd).2.2 c hc d ((in4 d).mp hd) e⟩
  · refine R.nF c ?_
    rcases List.mem_append.mp hc with q | q
    · exact List.mem_append_left _ q
    · exact List.mem_append_right _ ((in4 c).mp q)
  · have hc : c ≠ b := fun e' => by
      rcases st0.st.newA b hbA2 with z | z
      · exact n (by rw [e']; exact List.mem_append_right _ z)
      · rw [e', z] at e
        cases e
    rw [up c hc]
    exact st0.st.keep c o e fun z => n (List.mem_append_right _ z)
  · by_cases hc : c = b
    · rw [hc, hH, upd_same] at e
      cases e
    · rw [up c hc] at e
      exact e
end
/-- self.f.append(e) -/
def sAppF (nm : Str) (i : Nat) (f : Str) (g : Q1 D) : SS := fun r m => match fldAt nm i f r m, g r m with
  | some (n, .lst l), some d => (match m[n]? with
    | some (.ins nm' fs) => if l.length < LIM then .nx r (m.set n (.ins nm' (putC f (.lst (l ++ [d])) fs))) else .bad
    | _ => .bad)
  | _, _ => .bad
/-- self.f[e] = v -/
def sPutF (nm : Str) (i : Nat) (f : Str) (g v : Q1 D) : SS := fun r m => match fldAt nm i f r m, g r m, v r m with
  | some (n, .lst l), some (.int k), some d => (match m[n]?, ixN l.length k with
    | some (.ins nm' fs), some j => .nx r (m.set n (.ins nm' (putC f (.lst (l.set j d)) fs)))
    | _, _ => .bad)
  | _, _, _ => .bad
section
variable {X : Cx} {w : Wi} {nm f : Str} {i : Nat} {C : Addr} {o e : Expr} {g gv : Q1 D} {pos apos p1 p2 : Pos}
theorem ds_appF (S : ClsS X.K X.mg nm C) (hno : NoAttr X.K C f) (ho : PE X o (tVar i)) (he : DQ X e g) (hb : attributeBase o f X.env (eval o X.env) = eval o X.env := by rfl)
    (hs : swapsWith (.Call (.Attribute (.Attribute o f apos) "append" p1) [e] [] p2) none pos.line X.env = pure false := by rfl) (hst : starEach [e] X.env = [(false, eval e X.env)] := by rfl)
    (hbase : attributeBase (.Attribute o f apos) "append" X.env (eval (.Attribute o f apos) X.env) = eval (.Attribute o f apos) X.env := by rfl)
    (hfew : ((backTo p2 (starEach [e] X.env)).all (fun x => !x.1) && (backToKw p2 (keywordEach [] X.env)).all (fun x => x.1.isSome)
      && decide ([e].length + ([] : List Keyword).length + (if ([] : List Keyword).isEmpty then 0 else 1) < 30)) = true := by rfl)
    (hline : (p1.endLine == p2.line) = true := by rfl) (hpl : (backTo p2 (starEach [] X.env)).any (·.1) = false := by rfl) :
    DS X w (.Expr (.Call (.Attribute (.Attribute o f apos) "append" p1) [e] [] p2) pos) (sAppF nm i f g) :=
  PS.imp (ps_expr (pe_bm PySem.F.plainAttrs_list PySem.F.slot_list_append PySem.F.type_list_append mt_append (pe_fld ho hb) (pa_cons he pa_nil hst) hbase hfew hline hst hpl) hs) fun E s H ⟨x, r, m, R, q⟩ => by
  unfold sAppF at q
  cases h1 : fldAt nm i f r m with
  | none => rw [h1] at q; exact q.elim
  | some nc =>
    obtain ⟨n, c⟩ := nc
    rw [h1] at q
    cases c with
    | lst l =>
      cases h2 : g r m with
      | none => rw [h2] at q; exact q.elim
      | some d =>
        rw [h2] at q
        obtain ⟨hr, fs, hm, hf⟩ := fld_inv h1
        dsimp only at q
        rw [hm] at q
        dsimp only at q
        obtain ⟨hz, q⟩ := FinS.ite q
        obtain ⟨a, dx, b, gs, vs, e1, g1, l1, hb', rp, hbA⟩ := fld_lst (y := x) (H1 := H) S R h1
        refine ⟨.ref a, e1, a, C, dx, gs, .ref b, rfl, g1, S.c, hno, l1, .inl ⟨rfl, vs, SqL.of hb'⟩, x, r, m, R, ?_⟩
        rw [h2]
        intro v y H1 R1 p1 st1
        obtain ⟨a2, dx2, C2, b2, gs2, vs2, k1, k2, k3, k4, k5, k6, up⟩ := R1.ownF (l' := l ++ [d]) st1.toE hm hf
        have ea : a2 = a := by
          obtain ⟨v3, A3, z1, z2, _⟩ := slot_at R1 hr
          cases z2 with
          | val z2 =>
            cases z2 with
            | obj z2 =>
              rw [k1] at z2
              cases z2
              rw [e1] at z1
              cases z1
              rfl
        subst ea
        have ei : some (HO.ins C2 dx2 gs2) = some (HO.ins C dx gs) := by rw [← k3]; exact st1.st.keep _ _ g1 (by simp)
        cases ei
        rw [l1] at k4
        cases k4
        obtain ⟨z, R2, st2⟩ := up (vs2 ++ [v]) (k6.append (.cons p1 .nil))
        exact ⟨b, vs2, v, rfl, rfl, k5, by rw [← k6.length, ← lim_eq]; exact hz, q s z _ R2 st2⟩
    | _ => exact q.elim
theorem ds_putF (S : ClsS X.K X.mg nm C) (hno : NoAttr X.K C f) (ho : PE X o (tVar i)) (he : DQ X e g) {ev : Expr} (hv : DQ X ev gv) (hb : attributeBase o f X.env (eval o X.env) = eval o X.env := by rfl) {p3 : Pos}
    (hs : swapsWithSole [.Subscript (.Attribute o f apos) e p3] ev pos.line X.env = pure false := by rfl) (hw : swappedStores [.Subscript (.Attribute o f apos) e p3] ev X.env = pure none := by rfl)
    (h1 : (assignEach [.Subscript (.Attribute o f apos) e p3] X.env).map (·.2) = [assign (.Subscript (.Attribute o f apos) e p3) X.env] := by rfl)
    (ha : ∀ v, assign (.Subscript (.Attribute o f apos) e p3) X.env v = (do
      let o1 ← holding [v] (eval (.Attribute o f apos) X.env)
      let i1 ← holding [v, o1] (eval e X.env)
      standAt p3
      holding [v, o1, i1] (setItem o1 i1 v)
      release [v, o1, i1] []) := by intro _; rfl) :
    DS X w (.Assign [.Subscript (.Attribute o f apos) e p3] ev pos) (sPutF nm i f g gv) :=
  PS.imp (ps_asg hv (pg_sub (pe_fld ho hb) he set_list ha) hs hw h1) fun E s H ⟨x, r, m, R, q⟩ => by
  unfold sPutF at q
  cases h1 : fldAt nm i f r m with
  | none => rw [h1] at q; exact q.elim
  | some nc =>
    obtain ⟨n, c⟩ := nc
    rw [h1] at q
    cases c with
    | lst l =>
      cases h2 : g r m with
      | none => rw [h2] at q; exact q.elim
      | some dk =>
        rw [h2] at q
        cases dk with
        | int k =>
          cases h3 : gv r m with
          | none => rw [h3] at q; exact q.elim
          | some d =>
            rw [h3] at q
            obtain ⟨hr, fs, hm, hf⟩ := fld_inv h1
            dsimp only at q
            rw [hm] at q
            cases h4 : ixN l.length k with
            | none => rw [h4] at q; exact q.elim
            | some j =>
              rw [h4] at q
              refine ⟨x, r, m, R, ?_⟩
              rw [h3]
              intro v y H1 R1 p1 st1
              obtain ⟨a, dx, b, gs, vs, e1, g1, l1, hb', rp, hbA⟩ := fld_lst (y := y) (H1 := H1) S R1 h1
              refine ⟨.ref a, e1, a, C, dx, gs, .ref b, rfl, g1, S.c, hno, l1, y, r, m, R1, ?_⟩
              rw [h2]
              intro v2 z H2 R2 p2 st2
              cases p2
              obtain ⟨a2, dx2, C2, b2, gs2, vs2, k1, k2, k3, k4, k5, k6, up⟩ := R2.ownF (l' := l.set j d) (st1.trans st2).toE hm hf
              have ea : a2 = a := by
                obtain ⟨v3, A3, z1, z2, _⟩ := slot_at R2 hr
                cases z2 with
                | val z2 =>
                  cases z2 with
                  | obj z2 =>
                    rw [k1] at z2
                    cases z2
                    rw [e1] at z1
                    cases z1
                    rfl
              subst ea
              have ei : some (HO.ins C2 dx2 gs2) = some (HO.ins C dx gs) := by rw [← k3]; exact st2.st.keep _ _ g1 (by simp)
              cases ei
              rw [l1] at k4
              cases k4
              obtain ⟨u, R3, st3⟩ := up (vs2.set j v) (Reps.set (p1.mono st2.st.F st2.st.io) j k6)
              exact ⟨b, vs2, k, j, rfl, rfl, k5, by rw [← k6.length]; exact h4, q s u _ R3 st3⟩
        | _ => exact q.elim
    | _ => exact q.elim
end
end Dl
set_option autoImplicit true
/-! The data layer: two fields by one assignment, own lists by +, methods called, instances made. -/
namespace Dl
open PySem PySem.Spec PyProof.Rows L2 TL
/-! ### a, b = e where a, b are fields -/
def gFld (K : PySem.W.Frag) (ta : TE) (f : Str) : TG := fun v σ H Q => ta σ H fun x H1 => ∃ a C dx fs, x = .ref a ∧ H1 a = some (.ins C dx fs) ∧ L2.Cls K C ∧ NoAttr K C f ∧ fs.length < 1000 ∧ Q σ (upd H1 a (.ins C dx (putF f v fs)))
theorem pg_fld {X : Cx} {o : Expr} {f : Str} {pos : Pos} {ta : TE} (ho : PE X o ta) : PG X (.Attribute o f pos) (gFld X.K ta f) := by
  refine ⟨fun pins s σ H v u Q I r h => ?_⟩
  rw [PySem.assign_Attribute]
  refine wpAny_bind (wpAny_holding (thn (ho.run pins s σ H _ I h) fun ov s1 ⟨x, H1, I1, r1, a, C, dx, fs, ex, ea, c, n, l, q⟩ => ?_))
  subst ex
  obtain rfl : ov = Value.ref a := r1
  refine wpAny_bind (wpAny_standAt (wpAny_bind (wpAny_holding (setattr_ok I1 ea c n l r fun s2 I2 => ?_))))
  exact wpAny_release ⟨σ, _, I2, q⟩
def sSetF2 (nm : Str) (i : Nat) (f g : Str) (fe : SE) : SS := fun r m => bindS r (fe r m) fun d m => match d, r[i]? with
  | .tup [a, b], some (some (.val (.obj n))) => (match m[n]? with
    | some (.ins nm' fs) => if nm' = nm ∧ fs.length < 800 then .nx r (m.set n (.ins nm' (putC g (.val b) (putC f (.val a) fs)))) else .bad
    | _ => .bad)
  | _, _ => .bad
theorem putC_len (f : Str) (c : Cell) : ∀ fs : List (Str × Cell), (putC f c fs).length ≤ fs.length + 1
  | [] => Nat.le_refl _
  | (g, x) :: r => by
    unfold putC
    by_cases e : g = f
    · rw [if_pos e]
      exact Nat.le_succ _
    · rw [if_neg e]
      exact Nat.succ_le_succ (putC_len f c r)
section
variable {X : Cx} {w : Wi} {nm f g : Str} {i : Nat} {C : Addr}
theorem ds_setF2 {o o' e : Expr} {fe : SE} {pos p1 p2 p3 : Pos} {kt : Nat} (S : ClsS X.K X.mg nm C) (hc : X.calm = true) (h1 : NoAttr X.K C f) (h2 : NoAttr X.K C g) (ho : PE X o (tVar i)) (ho' : PE X o' (tVar i)) (he : DE X w e fe)
    (hs : swapsWithSole [.Tuple [.Attribute o f p1, .Attribute o' g p2] kt p3] e pos.line X.env = pure false := by rfl) (hw : swappedStores [.Tuple [.Attribute o f p1, .Attribute o' g p2] kt p3] e X.env = pure none := by rfl)
    (hk : (assignEach [.Tuple [.Attribute o f p1, .Attribute o' g p2] kt p3] X.env).map (·.2) = [assign (.Tuple [.Attribute o f p1, .Attribute o' g p2] kt p3) X.env] := by rfl)
    (ha : (assignEach [.Attribute o f p1, .Attribute o' g p2] X.env).map (·.2) = assign (.Attribute o f p1) X.env :: (assignEach [.Attribute o' g p2] X.env).map (·.2) := by rfl)
    (hb : (assignEach [.Attribute o' g p2] X.env).map (·.2) = assign (.Attribute o' g p2) X.env :: (assignEach [] X.env).map (·.2) := by rfl)
    (hn : (assignEach [.Attribute o f p1, .Attribute o' g p2] X.env).length = 2 := by rfl) (hst : (assignEach [.Attribute o f p1, .Attribute o' g p2] X.env).findIdx? (·.1) = none := by rfl) :
    DS X w (.Assign [.Tuple [.Attribute o f p1, .Attribute o' g p2] kt p3] e pos) (sSetF2 nm i f g fe) :=
  PS.imp (ps_asg he (pg_tup hc (pgs_cons (pg_fld ho) (pgs_cons (pg_fld ho') pgs_nil hb) ha) hn hst) hs hw hk) fun E s H ⟨x, r, m, R, q⟩ => by
  refine rd_bindS R q fun d m1 v y H1 R1 p1 st1 q1 => ?_
  split at q1
  · rename_i a b n hr
    split at q1
    · rename_i nm' fs hm
      by_cases e1 : nm' = nm ∧ fs.length < 800
      · rw [if_pos e1] at q1
        obtain ⟨rfl, hl⟩ := e1
        cases p1 with
        | tup hF rp =>
          cases rp with
          | cons ra rp =>
            cases rp with
            | cons rb rp =>
              cases rp
              obtain ⟨v', A0, k1, k2, _⟩ := slot_at R1 hr
              cases k2 with
              | val k2 =>
                cases k2 with
                | @obj _ ad hio =>
                  obtain ⟨a', dx, C', gs, e2, e0, g1, hgl, z, R2, st2⟩ := R1.setFld (f := f) (A1 := []) (x0 := y) (H0 := H1) .refl (fun b hb => by cases hb) hm (.val ra) fun b hb => by cases hb
                  rw [hio] at e2
                  cases e2
                  have eC : C' = C := by
                    have e0 : X.mg nm' = some (.ref C') := e0
                    rw [S.g] at e0
                    cases e0
                    rfl
                  subst eC
                  have hm2 : (m1.set n (.ins nm' (putC f (.val a) fs)))[n]? = some (.ins nm' (putC f (.val a) fs)) := by
                    have hlt := (List.getElem?_eq_some_iff.mp hm).1
                    rw [List.getElem?_set_self hlt]
                  have rb2 : Rep z.F z.io b _ := rb.mono st2.st.F st2.st.io
                  obtain ⟨a3, dx3, C3, gs3, e3, e03, g3, hgl3, z3, R3, st3⟩ := R2.setFld (f := g) (A1 := []) (x0 := z) (H0 := _) .refl (fun b hb => by cases hb) hm2 (.val rb2) fun b hb => by cases hb
                  have hio2 := st2.st.io.get hio
                  rw [hio2] at e3
                  cases e3
                  rw [upd_same] at g3
                  cases g3
                  have l2 := putC_len f (.val a) fs
                  refine ⟨_, _, rfl, SqT.of (R1.sub _ _ hF), rfl, _, _, rfl, ⟨.ref ad, k1, ad, C', dx, gs, rfl, g1, S.c, h1, by omega, _, _, rfl, ⟨.ref ad, k1, ad, C', dx, _, rfl, upd_same, S.c, h2, by omega, rfl, ?_⟩⟩⟩
                  have q1 : FinS w y H1 E (.nx r (m1.set n (.ins nm' (putC g (.val b) (putC f (.val a) fs))))) := q1
                  have es : (m1.set n (.ins nm' (putC f (.val a) fs))).set n (.ins nm' (putC g (.val b) (putC f (.val a) fs))) = m1.set n (.ins nm' (putC g (.val b) (putC f (.val a) fs))) := List.set_set ..
                  rw [es] at R3
                  exact q1 s z3 _ R3 (st2.trans st3)
      · rw [if_neg e1] at q1
        exact q1.elim
    · exact q1.elim
  · exact q1.elim
end
/-! ### a + b, an own list -/
def catC : D → D → Sto → R Cell
  | .lst a, .lst b, m => if a.length + b.length ≤ LIM then .ok (.lst (a ++ b)) m else .bad
  | _, _, _ => .bad
def cCat (f g : SE) : SCe := fun r m => bindR (f r m) fun d m => bindR (g r m) fun k m => catC d k m
theorem dc_cat {X : Cx} {w : Wi} {a b : Expr} {fa fb : SE} {pos : Pos} (ha : DK X w a fa) (hb : DK X w b fb) : DC X w (.BinOp a .Add b pos) (cCat fa fb) := PE.imp (pe_op op_cat ha hb) fun s H Q ⟨x, r, m, R, q⟩ => by
  unfold cCat at q
  show rd Pk w fa s H _
  refine ⟨x, r, m, R, ?_⟩
  cases ea : fa r m with
  | bad => rw [ea] at q; exact q
  | exc c v m1 => rw [ea] at q; exact q
  | ok d m1 =>
    rw [ea] at q
    intro v y H1 R1 p1 st1
    refine ⟨y, r, m1, R1, ?_⟩
    have q : FinC w x r s H Q (bindR (fb r m1) fun k m => catC d k m) := q
    cases eb : fb r m1 with
    | bad => rw [eb] at q; exact q
    | exc c v m2 =>
      rw [eb] at q
      exact fun cls dd z H2 R2 ex st2 => q cls dd z H2 R2 ex (st1.trans st2)
    | ok k m2 =>
      rw [eb] at q
      intro u z H2 R2 p2 st2
      have p1' := p1.stay R1 st2
      have q : FinC w x r s H Q (catC d k m2) := q
      cases d with
      | lst l1 =>
        cases k with
        | lst l2 =>
          have q : FinC w x r s H Q (if l1.length + l2.length ≤ LIM then .ok (.lst (l1 ++ l2)) m2 else .bad) := q
          by_cases hz : l1.length + l2.length ≤ LIM
          · rw [if_pos hz] at q
            obtain ⟨p, xs, rfl, hp, rx⟩ := p1'.lst R2
            obtain ⟨p', ys, rfl, hp', ry⟩ := p2.lst R2
            refine ⟨p, p', xs, ys, rfl, rfl, hp, hp', by rw [← rx.length, ← ry.length, ← lim_eq]; exact hz, fun t ht => ?_⟩
            have htF : z.F t = none := by
              cases e : z.F t with
              | none => rfl
              | some o => rw [R2.sub _ _ e] at ht; cases ht
            have R3 : Rel z r _ s (upd H2 t (.lst (xs ++ ys))) := ⟨fun b o e => by rw [upd_ne (ne_of_none (R2.sub _ _ e) ht)]; exact R2.sub _ _ e, R2.vars.mono (.refl _) (.refl _) fun b _ o e => by rw [upd_ne (ne_of_none e ht)]; exact e,
              R2.sto.mono (.refl _) (.refl _) fun b _ o e => by rw [upd_ne (ne_of_none e ht)]; exact e, R2.nd, R2.nF⟩
            refine q (.ref t) z (upd H2 t (.lst (xs ++ ys))) [t] R3 (.lst upd_same (rx.append ry)) (fun b hb => ?_) ((st1.trans st2).trans ⟨⟨.refl _, .refl _, fun b o e _ => by rw [upd_ne (ne_of_none e ht)]; exact e, fun b e => ?_, fun b h1 h2 => absurd h1 h2, fun b h => .inl h⟩, rfl⟩)
            · have e := List.mem_singleton.mp hb
              subst e
              exact ⟨htF, fun hm => R2.there b hm ht, (st1.trans st2).st.there b ht⟩
            · by_cases hb : b = t
              · subst hb; exact ht
              · rw [upd_ne hb] at e
                exact e
          · rw [if_neg hz] at q
            exact q.elim
        | _ => exact q.elim
      | _ => cases k <;> exact q.elim
/-! ### methods -/
def tMethE (C : Addr) (mm : Str) (sp : Sp) (E : L2.St → XK) (ta : TE) (t : TA) : TE := fun σ H Q => ta σ H fun x H1 => ∃ a dx fs, x = .ref a ∧ H1 a = some (.ins C dx fs) ∧ fs.lookup mm = none ∧ t σ H1 fun vs H2 => sp (x :: vs) H2 Q (E σ)
section
variable {X : Cx} {CX : CXT} {k : Nat} {f C : Addr} {fd : FuncData} {ps : List Str} {sp : Sp} {E : L2.St → XK} {mm : Str} {apos pos : Pos} {o e : Expr} {es : List Expr} {ta : TE} {t : TA}
theorem pe_methE {pl : Sem Bool} (he : PE X o ta) (c : L2.Cls X.K C) (hm : Meth X.K C mm f) (F : FnOk X.prog X.w X.K X.mg X.base CX k f fd ps sp) (hr : Room k X.A) (hb : Binds X.K fd ps []) (hx : ∀ σ, PassesAt CX X σ (E σ)) (ha : PA X (e :: es) t)
    (hst : starEach (e :: es) X.env = (false, eval e X.env) :: starEach es X.env := by rfl) (hpl : (backTo pos (starEach es X.env)).any (·.1) = false := by rfl)
    (ht : eval (.Call (.Attribute o mm apos) (e :: es) [] pos) X.env = (do
      let v0 ← eval o X.env
      standAt apos.atName
      let (f, first) ← holding [v0] (getMethod v0 mm pl)
      callWith pos f first (backTo pos (starEach (e :: es) X.env)) (backToKw pos (keywordEach [] X.env))) := by rfl) :
    PE X (.Call (.Attribute o mm apos) (e :: es) [] pos) (tMethE C mm sp E ta t) := by
  refine ⟨fun pins s σ H Q I h => ?_⟩
  refine PySem.W.methodCall_KW (pl := pl) (thn (he.run pins s σ H _ I h) fun u s1 ⟨x, H1, I1, rx, a, dx, fs, ex, ea, l, q⟩ => ?_) ht
  subst ex
  obtain rfl : u = Value.ref a := rx
  refine getmeth_ok I1 ea c hm l ?_
  refine PySem.W.callWith_K (first := [.ref a]) (h₀ := X.base) I.ok.mod.kin hm.kp (thn (ha.run pos pins s1 σ H1 _ I1 q) fun us s2 ⟨vs, H2, I2, r, q2⟩ => ⟨I2.kIn, ?_⟩) hst hpl
  exact run_fnS (us := .ref a :: us) (vs := .ref a :: vs) F hr hb (hx σ) I2 (.cons rfl r) q2
theorem pe_methE0 {pl : Sem Bool} (he : PE X o ta) (c : L2.Cls X.K C) (hm : Meth X.K C mm f) (F : FnOk X.prog X.w X.K X.mg X.base CX k f fd ps sp) (hr : Room k X.A) (hb : Binds X.K fd ps []) (hx : ∀ σ, PassesAt CX X σ (E σ))
    (ht : eval (.Call (.Attribute o mm apos) [] [] pos) X.env = (do
      let v0 ← eval o X.env
      standAt apos.atName
      let (f, first) ← holding [v0] (getMethod v0 mm pl)
      callWith pos f first (backTo pos (starEach [] X.env)) (backToKw pos (keywordEach [] X.env))) := by rfl) :
    PE X (.Call (.Attribute o mm apos) [] [] pos) (tMethE C mm sp E ta tNil) := by
  refine ⟨fun pins s σ H Q I h => ?_⟩
  refine PySem.W.methodCall_KW (pl := pl) (thn (he.run pins s σ H _ I h) fun u s1 ⟨x, H1, I1, rx, a, dx, fs, ex, ea, l, q⟩ => ?_) ht
  subst ex
  obtain rfl : u = Value.ref a := rx
  refine getmeth_ok I1 ea c hm l ?_
  exact PySem.W.callWith_K0 (first := [.ref a]) I1.kIn hm.kp (run_fnS (us := [.ref a]) (vs := [.ref a]) F hr hb (hx σ) I1 (.cons rfl .nil) q)
end
/-- a method of the class nm, n its parameters with self -/
structure MCal (P : Program) (w : World) (K : PySem.W.Frag) (mg : Str → Option Value) (base : Heap) (k : Nat) (nm mm : Str) (n : Nat) (t : Tf) (φ : Fd) : Prop where
  ex : ∃ f fd ps C, FnOk P w K mg base (L2.CX P w) k f fd ps (spF (P, w, mg) t n φ) ∧ ClsS K mg nm C ∧ Meth K C mm f ∧ Binds K fd ps []
def insAt (nm mm : Str) (i : Nat) (r : Env) (m : Sto) : Option Nat := match r[i]? with
  | some (some (.val (.obj n))) => match m[n]? with
    | some (.ins nm' fs) => if nm' = nm ∧ fs.lookup mm = none then some n else none
    | _ => none
  | _ => none
/-- o.m(e, ..) -/
def sMethC (nm mm : Str) (i n : Nat) (φ : Fd) (g : SL) : SE := fun r m => match insAt nm mm i r m with
  | some k => bindR (g r m) fun ds m1 => callF n φ (.obj k :: ds) m1
  | none => .bad
theorem MCal.mono {P : Program} {w : World} {K : PySem.W.Frag} {mg : Str → Option Value} {base : Heap} {j k : Nat} {nm mm : Str} {n : Nat} {t : Tf} {φ : Fd} (C : MCal P w K mg base j nm mm n t φ) (h : j ≤ k) : MCal P w K mg base k nm mm n t φ := by
  obtain ⟨f, fd, ps, c, F, r⟩ := C.ex
  exact ⟨f, fd, ps, c, F.mono h, r⟩
section
variable {X : Cx} {w : Wi} {k n i : Nat} {nm mm : Str} {φ : Fd} {o e : Expr} {es : List Expr} {g : SL} {apos pos : Pos}
theorem ins_inv {r : Env} {m : Sto} {j : Nat} (h : insAt nm mm i r m = some j) : r[i]? = some (some (.val (.obj j))) ∧ ∃ fs, m[j]? = some (.ins nm fs) ∧ fs.lookup mm = none := by
  unfold insAt at h
  split at h
  · rename_i n' hr
    split at h
    · rename_i nm' fs hm
      by_cases e : nm' = nm ∧ fs.lookup mm = none
      · rw [if_pos e] at h
        cases h
        obtain ⟨rfl, e⟩ := e
        exact ⟨hr, fs, hm, e⟩
      · rw [if_neg e] at h
        cases h
    · cases h
  · cases h
/-- the receiver, then the arguments, then the promise -/
theorem rd_methC {C f : Addr} {t : Tf} {s : L2.St} {H : Hp} {Q : VK} (ht : t = w.tf) (S : ClsS X.K X.mg nm C) (q : rd (PV (pw := pwOf X)) w (sMethC nm mm i n φ g) s H Q) :
    tMethE C mm (spF (pwOf X) t n φ) (WE w.W) (tVar i) (rd (pw := pwOf X) (fun x H ds vs => Reps x.F x.io ds vs) w g) s H Q := by
  obtain ⟨x, r, m, R, q⟩ := q
  subst ht
  unfold sMethC at q
  cases h : insAt nm mm i r m with
  | none => rw [h] at q; exact q.elim
  | some j =>
    rw [h] at q
    obtain ⟨hr, fs, hm, hf⟩ := ins_inv h
    obtain ⟨v, A0, h1, h2, _⟩ := slot_at R hr
    cases h2 with
    | val h2 =>
      cases h2 with
      | @obj _ a hio =>
        obtain ⟨a', dx, C', gs, A, A', e1, pm, e0, g1, g2, tf, _⟩ := R.insAt hm
        rw [hio] at e1
        cases e1
        have eC : C' = C := by
          have e0 : X.mg nm = some (.ref C') := e0
          rw [S.g] at e0
          cases e0
          rfl
        subst eC
        refine ⟨.ref a, h1, a, dx, gs, rfl, g1, tf.none hf, ?_⟩
        refine rd_bind R q fun ds m1 vs y H1 R1 p1 st1 q1 => ?_
        obtain ⟨hl, q1⟩ := Fin.ite q1
        refine ⟨by rw [← hl, List.length_cons, List.length_cons, ← p1.length], (y.w1 ([])), m1, .obj j :: ds, R1.leave, .cons (.obj (st1.st.io.get hio)) p1, ?_⟩
        exact Fin.out (w := w) (w' := w.tf.wi (WE w.W s)) rfl rfl R1 (fun _ _ _ h => h) q1
theorem de_meth {pl : Sem Bool} (M : MCal X.prog X.w X.K X.mg X.base k nm mm n w.tf φ) (hr : Room k X.A) (tk : L2.Takes X w.W) (ho : PE X o (tVar i)) (ha : DA X w (e :: es) g)
    (hst : starEach (e :: es) X.env = (false, eval e X.env) :: starEach es X.env := by rfl) (hpl : (backTo pos (starEach es X.env)).any (·.1) = false := by rfl)
    (ht : eval (.Call (.Attribute o mm apos) (e :: es) [] pos) X.env = (do
      let v0 ← eval o X.env
      standAt apos.atName
      let (f, first) ← holding [v0] (getMethod v0 mm pl)
      callWith pos f first (backTo pos (starEach (e :: es) X.env)) (backToKw pos (keywordEach [] X.env))) := by rfl) :
    DE X w (.Call (.Attribute o mm apos) (e :: es) [] pos) (sMethC nm mm i n φ g) := by
  obtain ⟨f, fd, ps, C, F, S, hm, hb⟩ := M.ex
  exact PE.imp (pe_methE (pl := pl) ho S.c hm F hr hb (fun σ => passAt tk σ) ha hst hpl ht) fun s H Q q => rd_methC (f := f) rfl S q
theorem de_meth0 {pl : Sem Bool} (M : MCal X.prog X.w X.K X.mg X.base k nm mm n w.tf φ) (hr : Room k X.A) (tk : L2.Takes X w.W) (ho : PE X o (tVar i))
    (ht : eval (.Call (.Attribute o mm apos) [] [] pos) X.env = (do
      let v0 ← eval o X.env
      standAt apos.atName
      let (f, first) ← holding [v0] (getMethod v0 mm pl)
      callWith pos f first (backTo pos (starEach [] X.env)) (backToKw pos (keywordEach [] X.env))) := by rfl) :
    DE X w (.Call (.Attribute o mm apos) [] [] pos) (sMethC nm mm i n φ aNil) := by
  obtain ⟨f, fd, ps, C, F, S, hm, hb⟩ := M.ex
  refine PE.imp (pe_methE0 (pl := pl) ho S.c hm F hr hb (fun σ => passAt tk σ) ht) fun s H Q q => ?_
  obtain ⟨v, h1, a, dx, gs, e1, g1, l, q2⟩ := rd_methC (f := f) rfl S q
  refine ⟨v, h1, a, dx, gs, e1, g1, l, ?_⟩
  obtain ⟨x, r, m, R, q3⟩ := q2
  exact q3 [] x H R .nil .refl
end
end Dl
set_option autoImplicit true
/-! The data layer: an instance is made. -/
namespace Dl
open PySem PySem.Spec PyProof.Rows L2 TL
theorem Stos.snoc {pw : PWd} {F : Hp} {io : List Addr} {H : Hp} {o : MObj} {a : Addr} {A0 : List Addr} (ho : ObjR pw F io H o a A0) : ∀ {m : Sto} {l A : List Addr}, Stos pw F io H m l A → Stos pw F io H (m ++ [o]) (l ++ [a]) (A ++ A0)
  | _, _, _, .nil => by
    have e : Stos pw F io H (o :: []) (a :: []) (A0 ++ []) := .cons ho .nil
    simpa using e
  | _, _, _, .cons c t => by
    have e := Stos.snoc ho t
    rw [List.append_assoc]
    exact .cons c e
theorem Stos.len {pw : PWd} {F : Hp} {io : List Addr} {H : Hp} : ∀ {m : Sto} {l A : List Addr}, Stos pw F io H m l A → m.length = l.length
  | _, _, _, .nil => rfl
  | _, _, _, .cons _ t => congrArg (· + 1) (Stos.len t)
section
variable {pw : PWd} {x y : Sx pw} {r : Env} {m : Sto} {s : L2.St} {H : Hp}
/-- a new instance without fields -/
theorem Rel.made {nm : Str} {a dx C : Addr} (R : Rel x r m s H) (ha : H a = none) (hd : H dx = none) (hne : dx ≠ a) (hC : pw.2.2 nm = some (.ref C)) :
    Rel (pw := pw) ⟨x.F, x.io ++ [a], x.A1, x.A2 ++ [a, dx]⟩ r (m ++ [.ins nm []]) s (upd (upd H dx (.own a)) a (.ins C dx [])) ∧ StE x H (⟨x.F, x.io ++ [a], x.A1, x.A2 ++ [a, dx]⟩ : Sx pw) (upd (upd H dx (.own a)) a (.ins C dx [])) := by
  obtain ⟨H', hH⟩ : ∃ H', H' = upd (upd H dx (.own a)) a (.ins C dx []) := ⟨_, rfl⟩
  rw [← hH]
  have hn : ∀ b o, H b = some o → H' b = some o := fun b o e => by rw [hH, upd_ne (ne_of_none e ha), upd_ne (ne_of_none e hd)]; exact e
  have kp : ∀ A : List Addr, Keep A H H' := fun A b _ o e => hn b o e
  have hi : Pfx x.io (x.io ++ [a]) := ⟨[a], rfl⟩
  have haF : x.F a = none := by
    cases e : x.F a with
    | none => rfl
    | some o => rw [R.sub _ _ e] at ha; cases ha
  have hdF : x.F dx = none := by
    cases e : x.F dx with
    | none => rfl
    | some o => rw [R.sub _ _ e] at hd; cases hd
  have naA : ∀ b ∈ x.A1 ++ x.A2, b ≠ a ∧ b ≠ dx := fun b hb => ⟨fun e => R.there b hb (by rw [e]; exact ha), fun e => R.there b hb (by rw [e]; exact hd)⟩
  have ob : ObjR pw x.F (x.io ++ [a]) H' (.ins nm []) a [a, dx] := .ins hC (by rw [hH, upd_same]) (by rw [hH, upd_ne hne, upd_same]) .nil
  have e1 : x.A1 ++ (x.A2 ++ [a, dx]) = (x.A1 ++ x.A2) ++ [a, dx] := by rw [List.append_assoc]
  refine ⟨⟨fun b o e => hn b o (R.sub _ _ e), R.vars.mono (.refl _) hi (kp _), Stos.snoc ob (R.sto.mono (.refl _) hi (kp _)), ?_, fun b hb => ?_⟩, ⟨⟨.refl _, hi, fun b o e _ => hn b o e, fun b e => ?_, fun b h1 h2 => absurd h1 h2, fun b hb => ?_⟩, rfl⟩⟩
  · show (x.A1 ++ (x.A2 ++ [a, dx])).Nodup
    rw [e1]
    refine List.nodup_append.mpr ⟨R.nd, by simp [Ne.symm hne], fun b hb c hc e => ?_⟩
    subst e
    simp only [List.mem_cons, List.not_mem_nil, or_false] at hc
    rcases hc with hc | hc
    · exact (naA b hb).1 hc
    · exact (naA b hb).2 hc
  · have hb : b ∈ x.A1 ++ (x.A2 ++ [a, dx]) := hb
    rw [e1] at hb
    rcases List.mem_append.mp hb with hb | hb
    · exact R.nF b hb
    · simp only [List.mem_cons, List.not_mem_nil, or_false] at hb
      rcases hb with rfl | rfl
      · exact haF
      · exact hdF
  · by_cases h1 : b = a
    · rw [h1]; exact ha
    · by_cases h2 : b = dx
      · rw [h2]; exact hd
      · rw [hH, upd_ne h1, upd_ne h2] at e
        exact e
  · have hb : b ∈ x.A2 ++ [a, dx] := hb
    rcases List.mem_append.mp hb with hb | hb
    · exact .inl hb
    · simp only [List.mem_cons, List.not_mem_nil, or_false] at hb
      rcases hb with rfl | rfl
      · exact .inr ha
      · exact .inr hd
end
def tMakeE (C : Addr) (sp : Sp) (E : L2.St → XK) (t : TA) : TE := fun σ H Q => t σ H fun vs H1 => ∀ x dx, H1 x = none → H1 dx = none → dx ≠ x → sp (.ref x :: vs) (upd (upd H1 dx (.own x)) x (.ins C dx [])) (fun v H2 => v = .non ∧ Q (.ref x) H2) (E σ)
section
variable {X : Cx} {CX : CXT} {k : Nat} {f C : Addr} {fd : FuncData} {ps : List Str} {sp : Sp} {E : L2.St → XK} {x : Str} {p pos : Pos} {e : Expr} {es : List Expr} {t : TA}
theorem run_makeE {pins : List (Addr × Obj)} {σ : L2.St} {H : Hp} {s : Shared} {Q : VK} {us : List Value} {vs : List V} (M : L2.Mk X.K C f) (F : FnOk X.prog X.w X.K X.mg X.base CX k f fd ps sp) (hr : Room (k + 1) X.A) (hb : Binds X.K fd ps [])
    (hx : PassesAt CX X σ (E σ)) (I : Inv X pins σ H s) (r : Vals vs us)
    (h : ∀ x dx, H x = none → H dx = none → dx ≠ x → sp (.ref x :: vs) (upd (upd H dx (.own x)) x (.ins C dx [])) (fun v H2 => v = .non ∧ Q (.ref x) H2) (E σ)) :
    wpAny (model X.prog X.w) X.A (call (.ref C) us) (EP X pins σ Q) X.xe s := by
  have hq := h (s.heap.objs.size + 1) s.heap.objs.size (I.hok.fresh (Nat.le_succ _)) (I.hok.fresh (Nat.le_refl _)) (Nat.ne_of_lt (Nat.lt_succ_self _))
  have I2 := Inv.made (C := C) I
  have r2 : Vals (V.ref (s.heap.objs.size + 1) :: vs) (Value.ref (s.heap.objs.size + 1) :: us) := .cons rfl r
  have hl : (Value.ref (s.heap.objs.size + 1) :: us ++ []).length = ps.length := by
    have e := r2.length
    rw [F.len _ _ _ _ hq] at e
    rw [List.append_nil]
    exact e.symm
  have hb2 := hb _ (Value.ref (s.heap.objs.size + 1) :: us) I2.kIn hl
  rw [List.append_nil] at hb2
  refine wpAny_call (make_map (f := f) I.kIn M.makes M.init (beq_iff_eq.mp M.fn) (codeAny_mono (F.run _ X.stack _ _ ⟨Value.ref (s.heap.objs.size + 1) :: us, []⟩ (Value.ref (s.heap.objs.size + 1) :: us) _ _ (E σ) (hr.make C us [])
    (I2.env0.make C us []) hb2 r2 hq) fun r s' hq' => ?_))
  cases r with
  | error e => exact hx pins _ _ e s' I2 hq'
  | ok fl =>
    cases fl with
    | ret u =>
      obtain ⟨v, H', I3, rv, ev, q3⟩ := I2.after hq'
      subst ev
      exact ⟨rv, ⟨V.ref (s.heap.objs.size + 1), H', I3, rfl, q3⟩⟩
    | next => exact False.elim hq'
    | brk => exact False.elim hq'
    | cont => exact False.elim hq'
theorem pe_makeE (M : L2.Mk X.K C f) (F : FnOk X.prog X.w X.K X.mg X.base CX k f fd ps sp) (hr : Room (k + 1) X.A) (hg : Gl X x) (hm : X.mg x = some (.ref C)) (hb : Binds X.K fd ps []) (hx : ∀ σ, PassesAt CX X σ (E σ))
    (ha : PA X (e :: es) t) (hdb : (x == ("__debug__" : Str)) = false := by decide) (he : starEach (e :: es) X.env = (false, eval e X.env) :: starEach es X.env := by rfl) (hpl : (backTo pos (starEach es X.env)).any (·.1) = false := by rfl) :
    PE X (.Call (.Name x p) (e :: es) [] pos) (tMakeE C sp E t) := by
  refine ⟨fun pins s σ H Q I h => ?_⟩
  refine wpAny_Call_Name_kw (ld_glob I hg hm ?_ hdb)
  refine PySem.W.callWith_K (h₀ := X.base) I.ok.mod.kin M.kp (thn (ha.run pos pins s σ H _ I h) fun us s1 ⟨vs, H1, I1, r, q⟩ => ⟨I1.kIn, ?_⟩) he hpl
  exact run_makeE M F hr hb (hx σ) I1 r q
end
/-- the class nm as it is made: its __init__ has n parameters with self -/
structure Maker (P : Program) (w : World) (K : PySem.W.Frag) (mg : Str → Option Value) (base : Heap) (k : Nat) (nm : Str) (n : Nat) (t : Tf) (φ : Fd) : Prop where
  ex : ∃ f fd ps C, FnOk P w K mg base (L2.CX P w) k f fd ps (spF (P, w, mg) t n φ) ∧ ClsS K mg nm C ∧ L2.Mk K C f ∧ Binds K fd ps []
def madeF (nm : Str) (n : Nat) (φ : Fd) (ds : List D) (m1 : Sto) : R D := match callF n φ (.obj m1.length :: ds) (m1 ++ [.ins nm []]) with
  | .ok .non m2 => .ok (.obj m1.length) m2
  | .exc c v m2 => .exc c v m2
  | _ => .bad
def sMake (nm : Str) (n : Nat) (φ : Fd) (g : SL) : SE := fun r m => bindR (g r m) fun ds m1 => madeF nm n φ ds m1
theorem de_make {X : Cx} {w : Wi} {k n : Nat} {nm : Str} {φ : Fd} {e : Expr} {es : List Expr} {g : SL} {p pos : Pos} (M : Maker X.prog X.w X.K X.mg X.base k nm n w.tf φ) (hr : Room (k + 1) X.A) (tk : L2.Takes X w.W) (hg : Gl X nm) (ha : DA X w (e :: es) g) (hdb : (nm == ("__debug__" : Str)) = false := by decide)
    (he : starEach (e :: es) X.env = (false, eval e X.env) :: starEach es X.env := by rfl) (hpl : (backTo pos (starEach es X.env)).any (·.1) = false := by rfl) : DE X w (.Call (.Name nm p) (e :: es) [] pos) (sMake nm n φ g) := by
  obtain ⟨f, fd, ps, C, F, S, hM, hb⟩ := M.ex
  refine PE.imp (pe_makeE hM F hr hg S.g hb (fun σ => passAt tk σ) ha hdb he hpl) fun s H Q ⟨x, r, m, R, q⟩ => ?_
  refine rd_bind R q fun ds m1 vs y H1 R1 p1 st1 q1 a dx hna hnd hne => ?_
  unfold madeF at q1
  unfold callF at q1
  by_cases hl : (D.obj m1.length :: ds).length = n
  · rw [if_pos hl] at q1
    obtain ⟨R2, st2⟩ := R1.made (nm := nm) (C := C) hna hnd hne S.g
    have hio : (y.io ++ [a])[m1.length]? = some a := by
      rw [Stos.len R1.sto, List.getElem?_append_right (Nat.le_refl _), Nat.sub_self]
      rfl
    refine ⟨by rw [← hl, List.length_cons, List.length_cons, ← p1.length], (⟨y.F, y.io ++ [a], y.A1, y.A2 ++ [a, dx]⟩ : Sx (pwOf X)).w1 [], m1 ++ [.ins nm []], .obj m1.length :: ds, R2.leave, .cons (.obj hio) (p1.mono st2.st.F st2.st.io), ?_⟩
    cases h : φ (.obj m1.length :: ds) (m1 ++ [.ins nm []]) with
    | bad => rw [h] at q1; exact q1.elim
    | exc c v m2 =>
      rw [h] at q1
      intro cls d z H' Rz ex stz
      obtain ⟨R', st'⟩ := R2.back ⟨stz.st.F, stz.st.io, stz.st.keep, stz.st.there, stz.st.newF, stz.st.newA⟩ Rz
      exact q1 cls d _ H' R' ex (st2.trans st')
    | ok d m2 =>
      rw [h] at q1
      cases d with
      | non =>
        intro v z H' Rz pv stz
        obtain ⟨R', st'⟩ := R2.back ⟨stz.st.F, stz.st.io, stz.st.keep, stz.st.there, stz.st.newF, stz.st.newA⟩ Rz
        cases pv
        exact ⟨rfl, q1 (.ref a) _ H' R' (.obj (st'.st.io.get hio)) (st2.trans st')⟩
      | _ => exact q1.elim
  · rw [if_neg hl] at q1
    exact q1.elim
/-! ### from the text -/
/-- a class of the text with fields: what a Maker and its methods want -/
structure MkF (K : PySem.W.Frag) (mg : Str → Option Value) (nm : Str) (C : Addr) : Prop where
  s : ClsS K mg nm C
  mks : PySem.W.makesIn K C = true
  kp : PySem.W.keepIn K (.ref C) = true
/-- a def in the class -/
structure MetIs (K : PySem.W.Frag) (C : Addr) (mm qual : Str) (st : Stmt) : Prop where
  ex : ∃ f fd, L2.Fun K mm qual st f fd ∧ PySem.W.findIn K (.ref C) mm = some (some (.ref f)) ∧ PySem.W.isFn K (.ref f) = true
abbrev BindsM (st : Stmt) (mm qual : Str) (ps : List Str) : Prop := ∀ (kV doc pm : Value) (an : Option Addr) (cdv ct : Value) (us : List Value), us.length = ps.length → bindArgs (PySem.W.fnOf mm qual (defArgs st) (defBody st) (defScope st) .none kV doc pm an cdv ct) ⟨us, []⟩ = pure (ps.zip us)
section
variable {P : Program} {w : World} {K : PySem.W.Frag} {mg : Str → Option Value} {base : Heap} {k : Nat} {nm mm qual : Str} {C : Addr} {st : Stmt} {N ps : List Str} {t : Tf} {b : SS}
theorem Maker.of (S : MkF K mg nm C) (D : MetIs K C "__init__" qual st) (Sc : FnScope N ps (defScope st)) (hb : BindsM st "__init__" qual ps)
    (hbody : ∀ (f : Addr) (cdv : Value) (A : Around) (outer : List PySem.Env) (s : Shared) (H : Hp) (E : XK), Room k (A.deeper (envOfC qual (defScope st) s.heap.objs.size f cdv)) → DSs (cxOf (L2.CX P w) P w K mg base N qual (defScope st) f cdv A outer s H E) (t.wi E) (defBody st) b) :
    Maker P w K mg base (k + 1) nm ps.length t (fD N b) := by
  obtain ⟨f, fd, F, h1, h2⟩ := D.ex
  exact ⟨f, fd, ps, C, fn_def F Sc (hbody f), S.s, ⟨S.mks, h1, h2, S.kp⟩, F.binds hb⟩
theorem MCal.of (S : MkF K mg nm C) (D : MetIs K C mm qual st) (Sc : FnScope N ps (defScope st)) (hb : BindsM st mm qual ps)
    (hbody : ∀ (f : Addr) (cdv : Value) (A : Around) (outer : List PySem.Env) (s : Shared) (H : Hp) (E : XK), Room k (A.deeper (envOfC qual (defScope st) s.heap.objs.size f cdv)) → DSs (cxOf (L2.CX P w) P w K mg base N qual (defScope st) f cdv A outer s H E) (t.wi E) (defBody st) b) :
    MCal P w K mg base (k + 1) nm mm ps.length t (fD N b) := by
  obtain ⟨f, fd, F, h1, h2⟩ := D.ex
  exact ⟨f, fd, ps, C, fn_def F Sc (hbody f), S.s, ⟨h1, h2, F.kp⟩, F.binds hb⟩
theorem Maker.mono {j n : Nat} {φ : Fd} (M : Maker P w K mg base j nm n t φ) (h : j ≤ k) : Maker P w K mg base k nm n t φ := by
  obtain ⟨f, fd, ps, C, F, r⟩ := M.ex
  exact ⟨f, fd, ps, C, F.mono h, r⟩
end
end Dl
set_option autoImplicit true
/-! The data layer: tuple(range(n)), list(range(n)). -/
namespace Dl
open PySem PySem.Spec PyProof.Rows L2 TL
theorem reps_rg {F : Hp} {io : List Addr} (n : Nat) : Reps F io (rangeL 0 n) (rgV 0 n) := by
  unfold rangeL rgV
  have e : ((n : Int) - 0).toNat = n := by omega
  rw [e]
  have h : ∀ l : List Nat, Reps F io (l.map fun (i : Nat) => D.int (0 + (i : Int))) (l.map fun i => V.int (0 + (i : Nat))) := fun l => by
    induction l with
    | nil => exact .nil
    | cons a l ih => exact .cons (.int _) ih
  exact h _
def fTupRg : D → Sto → R D
  | .int n, m => if 0 ≤ n ∧ n ≤ 1000 then .ok (.tup (rangeL 0 n.toNat)) m else .bad
  | _, _ => .bad
def fLstRg : D → Sto → R D
  | .int n, m => if 0 ≤ n ∧ n ≤ 1000 then .ok (.lst (rangeL 0 n.toNat)) m else .bad
  | _, _ => .bad
def sTupRg (fa : SE) : SE := fun r m => bindR (fa r m) fTupRg
def sLstRg (fa : SE) : SE := fun r m => bindR (fa r m) fLstRg
section
variable {X : Cx} {w : Wi} {a : Expr} {fa : SE} {p p2 pos pos2 : Pos}
theorem de_tupRg (hc : X.calm = true) (hg : Gl X "tuple") (hm : X.mg "tuple" = none) (hg2 : Gl X "range") (hm2 : X.mg "range" = none) (ha : DE X w a fa) (na : starEach [a] X.env = (false, eval a X.env) :: starEach [] X.env := by rfl)
    (na2 : starEach [.Call (.Name "range" p2) [a] [] pos2] X.env = (false, eval (.Call (.Name "range" p2) [a] [] pos2) X.env) :: starEach [] X.env := by rfl) : DE X w (.Call (.Name "tuple" p) [.Call (.Name "range" p2) [a] [] pos2] [] pos) (sTupRg fa) :=
  PE.imp (pe_tupRg hc hg hm (prg_1 hg2 hm2 ha na) na2) fun s H Q ⟨x, r, m, R, q⟩ => by
    refine rd_bind R q fun d m1 v y H1 R1 p1 st1 q1 => ?_
    cases d with
    | int n =>
      cases p1
      obtain ⟨⟨h0, h1⟩, q1⟩ := Fin.ite q1
      obtain ⟨k, rfl⟩ : ∃ k : Nat, n = k := ⟨n.toNat, by omega⟩
      refine ⟨k, rfl, RgOk.of_le (by omega) (by omega) (by omega) (by omega), Fin.tuple R1 q1 ?_⟩
      rw [Int.toNat_natCast]
      exact reps_rg k
    | _ => exact q1.elim
theorem de_lstRg (hc : X.calm = true) (hg : Gl X "list") (hm : X.mg "list" = none) (hg2 : Gl X "range") (hm2 : X.mg "range" = none) (ha : DE X w a fa) (na : starEach [a] X.env = (false, eval a X.env) :: starEach [] X.env := by rfl)
    (na2 : starEach [.Call (.Name "range" p2) [a] [] pos2] X.env = (false, eval (.Call (.Name "range" p2) [a] [] pos2) X.env) :: starEach [] X.env := by rfl) : DE X w (.Call (.Name "list" p) [.Call (.Name "range" p2) [a] [] pos2] [] pos) (sLstRg fa) :=
  PE.imp (pe_listRg hc hg hm (prg_1 hg2 hm2 ha na) na2) fun s H Q ⟨x, r, m, R, q⟩ => by
    refine rd_bind R q fun d m1 v y H1 R1 p1 st1 q1 => ?_
    cases d with
    | int n =>
      cases p1
      obtain ⟨⟨h0, h1⟩, q1⟩ := Fin.ite q1
      obtain ⟨k, rfl⟩ : ∃ k : Nat, n = k := ⟨n.toNat, by omega⟩
      refine ⟨k, rfl, RgOk.of_le (by omega) (by omega) (by omega) (by omega), Fin.list R1 q1 ?_⟩
      rw [Int.toNat_natCast]
      exact reps_rg k
    | _ => exact q1.elim
end
end Dl
set_option autoImplicit true
/-! The data layer: list(zip(a, b, c)): the zip whose tuple is still out. -/
namespace Dl
open PySem PySem.Spec PyProof.Rows L2 TL
section
variable {prog : Program} {w : World} {A : Around} {E : Value → Shared → Prop} {s : Shared} {z TI TO T i1 i2 i3 : Addr} {fp1 fp2 fp3 : List Addr} {n1 n2 n3 i : Nat} {P1 P2 P3 : Nat → Value → Prop} {St1 St2 St3 : Nat → Heap → Prop} {f : Bool} {oT : Obj}
theorem zip3_item_held {Q : Value → Shared → Prop} (S : ZipSep3 z TI TO i1 i2 i3 fp1 fp2 fp3) (D1 : Draws prog w A i1 fp1 n1 P1 St1) (D2 : Draws prog w A i2 fp2 n2 P2 St2) (D3 : Draws prog w A i3 fp3 n3 P3 St3)
    (hz : IsZipHeld s.heap z TI TO T f) (hT : s.heap.get? T = some oT) (hTI : IsTupOf3 s.heap TI (.ref i1) (.ref i2) (.ref i3)) (st1 : St1 i s.heap) (st2 : St2 i s.heap) (st3 : St3 i s.heap) (hlt1 : i < n1) (hlt2 : i < n2) (hlt3 : i < n3)
    (hQ : ∀ x1 x2 x3 h' tk, P1 i x1 → P2 i x2 → P3 i x3 → IsZipHeld h' z TI TO T true → St1 (i + 1) h' → St2 (i + 1) h' → St3 (i + 1) h' → IsTupOf3 h' s.heap.objs.size x1 x2 x3 → h'.objs.size = s.heap.objs.size + 1 →
      (∀ c o, c ≠ z → c ≠ i1 → c ≠ i2 → c ≠ i3 → s.heap.get? c = some o → h'.get? c = some o) → Q (.ref s.heap.objs.size) { s with heap := h', toks := tk }) :
    wpAny (model prog w) A (Builtin.«zip.__next__» ⟨[.ref z], []⟩) (fun fin s' => ∃ v, fin = .done (.ret v) ∧ Q v s') E s := by
  obtain ⟨hp, g, d, tk0, os⟩ := s
  show wpAny _ _ (field (.ref z) 2 >>= _) _ _ _
  refine wpAny_bind (wpAny_field hz rfl (x := .bool false) rfl ?_)
  show wpAny _ _ (field (.ref z) 3 >>= _) _ _ _
  refine wpAny_bind (wpAny_field hz rfl (x := .ref TI) rfl ?_)
  refine wpAny_bind (wpAny_seqItems hTI rfl ?_)
  show wpAny _ _ (Builtin.SmallTypes.ownedTupleIsFree (.ref z) >>= _) _ _ _
  refine wpAny_bind (wpAny_tupleHeld_zip hz hT fun g0 hz0 hs0 => ?_)
  replace hs0 : Heap.SameBut z hp g0 := hs0
  simp only [Bool.false_eq_true, if_false]
  refine wpAny_bind ?_
  rw [← Array.forIn_toList]
  simp only [List.forIn_cons, List.forIn_nil]
  refine wpAny_bind (wpAny_bind (wpAny_holding ?_))
  show wpAny _ _ (Builtin.SmallTypes.nextOf (.ref i1) >>= _) _ _ ⟨g0, g, d, tk0, os⟩
  refine wpAny_bind (D1.item i _ _ _ hlt1 (D1.over st1 hs0 S.zf1) fun x1 p1 tk1 hx1 sn1 hp1 => wpAny_pure ?_)
  replace hp1 : Heap.SameBut i1 g0 p1 := hp1
  refine wpAny_pure ?_
  refine wpAny_bind (wpAny_bind (wpAny_holding ?_))
  show wpAny _ _ (Builtin.SmallTypes.nextOf (.ref i2) >>= _) _ _ ⟨p1, g, d, tk1, os⟩
  refine wpAny_bind (D2.item i _ _ _ hlt2 (D2.over (D2.over st2 hs0 S.zf2) hp1 S.sep1_2) fun x2 p2 tk2 hx2 sn2 hp2 => wpAny_pure ?_)
  replace hp2 : Heap.SameBut i2 p1 p2 := hp2
  refine wpAny_pure ?_
  refine wpAny_bind (wpAny_bind (wpAny_holding ?_))
  show wpAny _ _ (Builtin.SmallTypes.nextOf (.ref i3) >>= _) _ _ ⟨p2, g, d, tk2, os⟩
  refine wpAny_bind (D3.item i _ _ _ hlt3 (D3.over (D3.over (D3.over st3 hs0 S.zf3) hp1 S.sep1_3) hp2 S.sep2_3) fun x3 p3 tk3 hx3 sn3 hp3 => wpAny_pure ?_)
  replace hp3 : Heap.SameBut i3 p2 p3 := hp3
  refine wpAny_pure (wpAny_pure ?_)
  show wpAny _ _ (newTuple [x1, x2, x3] >>= _) _ _ ⟨p3, g, d, tk3, os⟩
  refine wpAny_bind (wpAny_newTuple ?_)
  have hsz : p3.objs.size = hp.objs.size := by rw [hp3.1, hp2.1, hp1.1, hs0.1]
  have hz3 : IsZipHeld p3 z TI TO T true := hp3.extBut _ _ S.zi3 (hp2.extBut _ _ S.zi2 (hp1.extBut _ _ S.zi1 hz0))
  have hk : ∀ c o, c ≠ z → c ≠ i1 → c ≠ i2 → c ≠ i3 → hp.get? c = some o → p3.get? c = some o := fun c o cz c1 c2 c3 e => hp3.extBut _ _ c3 (hp2.extBut _ _ c2 (hp1.extBut _ _ c1 (hs0.extBut _ _ cz e)))
  have hj1 : St1 (i + 1) p3 := D1.over (D1.over sn1 hp2 S.sep2_1) hp3 S.sep3_1
  have hj2 : St2 (i + 1) p3 := D2.over sn2 hp3 S.sep3_2
  refine wpAny_pure ⟨_, rfl, ?_⟩
  show Q (.ref p3.objs.size) ⟨p3.push { cls := .type "tuple", data := .seq #[x1, x2, x3] }, g, d, tk3, os⟩
  have ht : IsTupOf3 (p3.push { cls := .type "tuple", data := .seq #[x1, x2, x3] }) p3.objs.size x1 x2 x3 := Heap.get?_push_size _ rfl
  have hz4 : (p3.push { cls := .type "tuple", data := .seq #[x1, x2, x3] }).objs.size = p3.objs.size + 1 := Heap.size_push ..
  have up : ∀ c o, p3.get? c = some o → (p3.push { cls := .type "tuple", data := .seq #[x1, x2, x3] }).get? c = some o := fun c o e => Heap.get?_push_of_some _ e
  rw [hsz] at ht hz4 ⊢
  exact hQ x1 x2 x3 _ tk3 hx1 hx2 hx3 (up _ _ hz3) (D1.frame _ _ _ hj1 fun b _ o e => up b o e) (D2.frame _ _ _ hj2 fun b _ o e => up b o e) (D3.frame _ _ _ sn3 fun b _ o e => up b o e) ht hz4 fun c o cz c1 c2 c3 e => up c o (hk c o cz c1 c2 c3 e)
theorem zip3_end_held {Q : PySem.Fin → Shared → Prop} (S : ZipSep3 z TI TO i1 i2 i3 fp1 fp2 fp3) (D1 : Draws prog w A i1 fp1 n1 P1 St1) (D2 : Draws prog w A i2 fp2 n2 P2 St2) (D3 : Draws prog w A i3 fp3 n3 P3 St3)
    (hz : IsZipHeld s.heap z TI TO T f) (hT : s.heap.get? T = some oT) (hTI : IsTupOf3 s.heap TI (.ref i1) (.ref i2) (.ref i3)) (st1 : St1 i s.heap) (st2 : St2 i s.heap) (st3 : St3 i s.heap) (hle1 : i ≤ n1) (hle2 : i ≤ n2) (hle3 : i ≤ n3) (hend : i = n1 ∨ i = n2 ∨ i = n3)
    (hE : ∀ h' tk e, (∀ c o, c ≠ z → c ≠ i1 → c ≠ i2 → c ≠ i3 → s.heap.get? c = some o → h'.get? c = some o) → (∃ o, h'.get? e = some o ∧ o.cls = .type "StopIteration") → E (.ref e) { s with heap := h', toks := tk }) :
    wpAny (model prog w) A (Builtin.«zip.__next__» ⟨[.ref z], []⟩) Q E s := by
  obtain ⟨hp, g, d, tk0, os⟩ := s
  show wpAny _ _ (field (.ref z) 2 >>= _) _ _ _
  refine wpAny_bind (wpAny_field hz rfl (x := .bool false) rfl ?_)
  show wpAny _ _ (field (.ref z) 3 >>= _) _ _ _
  refine wpAny_bind (wpAny_field hz rfl (x := .ref TI) rfl ?_)
  refine wpAny_bind (wpAny_seqItems hTI rfl ?_)
  show wpAny _ _ (Builtin.SmallTypes.ownedTupleIsFree (.ref z) >>= _) _ _ _
  refine wpAny_bind (wpAny_tupleHeld_zip hz hT fun g0 hz0 hs0 => ?_)
  replace hs0 : Heap.SameBut z hp g0 := hs0
  simp only [Bool.false_eq_true, if_false]
  refine wpAny_bind ?_
  rw [← Array.forIn_toList]
  simp only [List.forIn_cons, List.forIn_nil]
  refine wpAny_bind (wpAny_bind (wpAny_holding ?_))
  show wpAny _ _ (Builtin.SmallTypes.nextOf (.ref i1) >>= _) _ _ ⟨g0, g, d, tk0, os⟩
  by_cases hlt1 : i < n1
  · refine wpAny_bind (D1.item i _ _ _ hlt1 (D1.over st1 hs0 S.zf1) fun x1 p1 tk1 hx1 sn1 hp1 => wpAny_pure ?_)
    replace hp1 : Heap.SameBut i1 g0 p1 := hp1
    refine wpAny_pure ?_
    refine wpAny_bind (wpAny_bind (wpAny_holding ?_))
    show wpAny _ _ (Builtin.SmallTypes.nextOf (.ref i2) >>= _) _ _ ⟨p1, g, d, tk1, os⟩
    by_cases hlt2 : i < n2
    · refine wpAny_bind (D2.item i _ _ _ hlt2 (D2.over (D2.over st2 hs0 S.zf2) hp1 S.sep1_2) fun x2 p2 tk2 hx2 sn2 hp2 => wpAny_pure ?_)
      replace hp2 : Heap.SameBut i2 p1 p2 := hp2
      refine wpAny_pure ?_
      refine wpAny_bind (wpAny_bind (wpAny_holding ?_))
      show wpAny _ _ (Builtin.SmallTypes.nextOf (.ref i3) >>= _) _ _ ⟨p2, g, d, tk2, os⟩
      have hi3 : i = n3 := by omega
      refine wpAny_bind (D3.done ⟨p2, g, d, tk2, os⟩ _ _ (by rw [← hi3]; exact D3.over (D3.over (D3.over st3 hs0 S.zf3) hp1 S.sep1_3) hp2 S.sep2_3) fun q e hq he => ?_)
      replace hq : Heap.ExtBut i3 p2 q := hq
      exact hE q tk2 e (fun c o cz c1 c2 c3 x => hq _ _ c3 (hp2.extBut _ _ c2 (hp1.extBut _ _ c1 (hs0.extBut _ _ cz x)))) he
    · have hi2 : i = n2 := by omega
      refine wpAny_bind (D2.done ⟨p1, g, d, tk1, os⟩ _ _ (by rw [← hi2]; exact D2.over (D2.over st2 hs0 S.zf2) hp1 S.sep1_2) fun q e hq he => ?_)
      replace hq : Heap.ExtBut i2 p1 q := hq
      exact hE q tk1 e (fun c o cz c1 c2 c3 x => hq _ _ c2 (hp1.extBut _ _ c1 (hs0.extBut _ _ cz x))) he
  · have hi1 : i = n1 := by omega
    refine wpAny_bind (D1.done ⟨g0, g, d, tk0, os⟩ _ _ (by rw [← hi1]; exact D1.over st1 hs0 S.zf1) fun q e hq he => ?_)
    replace hq : Heap.ExtBut i1 g0 q := hq
    exact hE q tk0 e (fun c o cz c1 c2 c3 x => hq _ _ c1 (hs0.extBut _ _ cz x)) he
theorem next_zip3_held {Q : Option Value → Shared → Prop} (S : ZipSep3 z TI TO i1 i2 i3 fp1 fp2 fp3) (D1 : Draws prog w A.in1 i1 fp1 n1 P1 St1) (D2 : Draws prog w A.in1 i2 fp2 n2 P2 St2) (D3 : Draws prog w A.in1 i3 fp3 n3 P3 St3)
    (hz : IsZipHeld s.heap z TI TO T f) (hT : s.heap.get? T = some oT) (hTI : IsTupOf3 s.heap TI (.ref i1) (.ref i2) (.ref i3)) (st1 : St1 i s.heap) (st2 : St2 i s.heap) (st3 : St3 i s.heap) (hlt1 : i < n1) (hlt2 : i < n2) (hlt3 : i < n3)
    (hQ : ∀ x1 x2 x3 h' tk, P1 i x1 → P2 i x2 → P3 i x3 → IsZipHeld h' z TI TO T true → St1 (i + 1) h' → St2 (i + 1) h' → St3 (i + 1) h' → IsTupOf3 h' s.heap.objs.size x1 x2 x3 → h'.objs.size = s.heap.objs.size + 1 →
      (∀ c o, c ≠ z → c ≠ i1 → c ≠ i2 → c ≠ i3 → s.heap.get? c = some o → h'.get? c = some o) → Q (some (.ref s.heap.objs.size)) { s with heap := h', toks := tk }) :
    wpAny (model prog w) A (pyNext (.ref z)) Q E s := by
  have hTy : s.TypeIs (.ref z) "zip" := ⟨_, hz, rfl⟩
  unfold pyNext
  exact wpAny_bind (wpAny_attempt (wpAny_callSpecial?_slot (name := Str.ofString "__next__") hTy F.slot_zip_next
    (wpAny_call_entry F.slot_zip_next hTy F.entry_zip_next
      (zip3_item_held S D1 D2 D3 hz hT hTI st1 st2 st3 hlt1 hlt2 hlt3 fun x1 x2 x3 h' tk y1 y2 y3 b1 d1 d2 d3 b5 b6 b7 => wpAny_pure (hQ x1 x2 x3 h' tk y1 y2 y3 b1 d1 d2 d3 b5 b6 b7)) (F.args_zip_next_1 _))))
theorem end_zip3_held {Q : Option Value → Shared → Prop} (S : ZipSep3 z TI TO i1 i2 i3 fp1 fp2 fp3) (D1 : Draws prog w A.in1 i1 fp1 n1 P1 St1) (D2 : Draws prog w A.in1 i2 fp2 n2 P2 St2) (D3 : Draws prog w A.in1 i3 fp3 n3 P3 St3)
    (hz : IsZipHeld s.heap z TI TO T f) (hT : s.heap.get? T = some oT) (hTI : IsTupOf3 s.heap TI (.ref i1) (.ref i2) (.ref i3)) (st1 : St1 i s.heap) (st2 : St2 i s.heap) (st3 : St3 i s.heap) (hle1 : i ≤ n1) (hle2 : i ≤ n2) (hle3 : i ≤ n3) (hend : i = n1 ∨ i = n2 ∨ i = n3)
    (hQ : ∀ h' tk, (∀ c o, c ≠ z → c ≠ i1 → c ≠ i2 → c ≠ i3 → s.heap.get? c = some o → h'.get? c = some o) → Q none { s with heap := h', toks := tk }) : wpAny (model prog w) A (pyNext (.ref z)) Q E s := by
  have hTy : s.TypeIs (.ref z) "zip" := ⟨_, hz, rfl⟩
  unfold pyNext
  refine wpAny_bind (wpAny_attempt (wpAny_callSpecial?_slot (name := Str.ofString "__next__") hTy F.slot_zip_next
    (wpAny_call_entry F.slot_zip_next hTy F.entry_zip_next (zip3_end_held S D1 D2 D3 hz hT hTI st1 st2 st3 hle1 hle2 hle3 hend fun h' tk e hk he => ?_) (F.args_zip_next_1 _))))
  obtain ⟨o, ho, hc⟩ := he
  refine wpAny_bind (wpAny_isInstance (T := "StopIteration") (b := true) ⟨o, ho, hc⟩ isSubtype_stop ?_)
  exact wpAny_pure (hQ _ _ hk)
end
end Dl
set_option autoImplicit true
/-! The data layer: list(zip(a, b, c)). -/
namespace PySem.F
theorem zip_no_len : typeLookup (.type "zip") "__len__" = pure none := by rw [typeLookup_type, builtinLookup_eq_fast]; kernel_rfl
theorem zip_no_hint : typeLookup (.type "zip") "__length_hint__" = pure none := by rw [typeLookup_type, builtinLookup_eq_fast]; kernel_rfl
end PySem.F
namespace Dl
open PySem PySem.Spec PyProof.Rows L2 TL
/-- a zip over three, its tuple free or out -/
def Z3St (h : Heap) (S z TI TO i1 i2 i3 : Addr) : Prop := (IsZip h z TI TO .none ∧ ∃ x y u, IsTupOf3 h TO x y u) ∨ ∃ T f o, IsZipHeld h z TI TO T f ∧ h.get? T = some o ∧ T ∉ [S, z, TI, TO, i1, i2, i3]
theorem Z3St.keep {h h' : Heap} {S z TI TO i1 i2 i3 : Addr} (hz : Z3St h S z TI TO i1 i2 i3) (n : z ≠ S ∧ TO ≠ S) (k : ∀ b o, b ≠ S → h.get? b = some o → h'.get? b = some o) : Z3St h' S z TI TO i1 i2 i3 := by
  rcases hz with ⟨a, x, y, u, b⟩ | ⟨T, f, o, a, b, c⟩
  · exact .inl ⟨k _ _ n.1 a, x, y, u, k _ _ n.2 b⟩
  · exact .inr ⟨T, f, o, k _ _ n.1 a, k _ _ (fun e => c (by simp [e])) b, c⟩
section
variable {X : Cx} {pins : List (Addr × Obj)} {σ : L2.St} {H : Hp} {s : Shared} {A : Around} {E : Value → Shared → Prop} {S z TI TO i1 i2 i3 : Addr} {k1 k2 k3 : SrcK} {i : Nat}
theorem z3_sep (nd : [S, z, TI, TO, i1, i2, i3].Nodup) (hf : ∀ b ∈ [S, z, TI, TO, i1, i2, i3], FpOk X pins H b) {sf1 sf2 sf3 : List Addr} (n1 : ∀ b ∈ sf1, H b ≠ none) (n2 : ∀ b ∈ sf2, H b ≠ none) (n3 : ∀ b ∈ sf3, H b ≠ none) : ZipSep3 z TI TO i1 i2 i3 (i1 :: sf1) (i2 :: sf2) (i3 :: sf3) := by
  have nin : ∀ {b j : Addr} {sf : List Addr}, b ∈ [S, z, TI, TO, i1, i2, i3] → (∀ c ∈ sf, H c ≠ none) → b ≠ j → b ∉ j :: sf := fun {b j sf} hb hn hj hm => by
    rcases List.mem_cons.mp hm with q | q
    · exact hj q
    · exact hn b q (hf b hb).1
  simp only [List.nodup_cons, List.mem_cons, List.not_mem_nil, or_false, not_or] at nd
  obtain ⟨_, ⟨a1, a2, a3, a4, a5⟩, ⟨b2, b3, b4, b5⟩, ⟨c3, c4, c5⟩, ⟨d4, d5⟩, e5, _⟩ := nd
  exact { TIz := Ne.symm a1, TOz := Ne.symm a2, TITO := b2, TIi1 := b3, mem1 := List.mem_cons_self .., zf1 := nin (by simp) n1 a3, Tf1 := nin (by simp) n1 c3, TIi2 := b4, mem2 := List.mem_cons_self .., zf2 := nin (by simp) n2 a4, Tf2 := nin (by simp) n2 c4, TIi3 := b5, mem3 := List.mem_cons_self .., zf3 := nin (by simp) n3 a5, Tf3 := nin (by simp) n3 c5, sep1_2 := nin (by simp) n2 d4, sep1_3 := nin (by simp) n3 d5, sep2_1 := nin (by simp) n1 (Ne.symm d4), sep2_3 := nin (by simp) n3 e5, sep3_1 := nin (by simp) n1 (Ne.symm d5), sep3_2 := nin (by simp) n2 (Ne.symm e5) }
theorem z3_item (hh : A.in1.handled = none) (nd : [S, z, TI, TO, i1, i2, i3].Nodup) (I : Inv X pins σ H s) (hf : ∀ b ∈ [S, z, TI, TO, i1, i2, i3], FpOk X pins H b) (hl : ∀ b ∈ [S, z, TI, TO, i1, i2, i3], b < s.heap.objs.size) (in1 : k1.isIn H) (in2 : k2.isIn H) (in3 : k3.isIn H)
    (zs : Z3St s.heap S z TI TO i1 i2 i3) (hTI : IsTupOf3 s.heap TI (.ref i1) (.ref i2) (.ref i3)) (g1 : k1.it i1 i s.heap) (g2 : k2.it i2 i s.heap) (g3 : k3.it i3 i s.heap) (hi : i < min (min k1.n k2.n) k3.n) {Q : Option Value → Shared → Prop}
    (hQ : ∀ h' tk a b c us, k1.at' i = some a → k2.at' i = some b → k3.at' i = some c → Vals [a, b, c] us → IsTup h' s.heap.objs.size us.toArray → Z3St h' S z TI TO i1 i2 i3 → IsTupOf3 h' TI (.ref i1) (.ref i2) (.ref i3) → k1.it i1 (i + 1) h' → k2.it i2 (i + 1) h' → k3.it i3 (i + 1) h' → h'.objs.size = s.heap.objs.size + 1 →
      (∀ b o, b ∉ [z, TO, i1, i2, i3] → s.heap.get? b = some o → h'.get? b = some o) → Q (some (.ref s.heap.objs.size)) { s with heap := h', toks := tk }) :
    wpAny (model X.prog X.w) A (pyNext (.ref z)) Q E s := by
  obtain ⟨sf1, P1, S1, D1, s1, c1, e1, n1⟩ := (k1.draws I hh in1 (hf i1 (by simp)).1 g1).ex
  obtain ⟨sf2, P2, S2, D2, s2, c2, e2, n2⟩ := (k2.draws I hh in2 (hf i2 (by simp)).1 g2).ex
  obtain ⟨sf3, P3, S3, D3, s3, c3, e3, n3⟩ := (k3.draws I hh in3 (hf i3 (by simp)).1 g3).ex
  have sp := z3_sep nd hf n1 n2 n3
  have hT : s.heap.objs.size ∉ [S, z, TI, TO, i1, i2, i3] := fun hm => Nat.lt_irrefl _ (hl _ hm)
  have hTIz : TI ∉ [z, TO, i1, i2, i3] := by
    have a := sp.TIz; have b := sp.TITO; have c := sp.TIi1; have d := sp.TIi2; have e := sp.TIi3
    simp [a, b, c, d, e]
  have fin : ∀ x1 x2 x3 h' tk, P1 i x1 → P2 i x2 → P3 i x3 → Z3St h' S z TI TO i1 i2 i3 → S1 (i + 1) h' → S2 (i + 1) h' → S3 (i + 1) h' → IsTupOf3 h' s.heap.objs.size x1 x2 x3 → h'.objs.size = s.heap.objs.size + 1 → (∀ b o, b ∉ [z, TO, i1, i2, i3] → s.heap.get? b = some o → h'.get? b = some o) → Q (some (.ref s.heap.objs.size)) { s with heap := h', toks := tk } := fun x1 x2 x3 h' tk p1 p2 p3 z' d1 d2 d3 ht hsz hk => by
    obtain ⟨a, ea, ra⟩ := e1 i x1 p1
    obtain ⟨b, eb, rb⟩ := e2 i x2 p2
    obtain ⟨c, ec, rc⟩ := e3 i x3 p3
    exact hQ h' tk a b c [x1, x2, x3] ea eb ec (.cons ra (.cons rb (.cons rc .nil))) ⟨_, ht, rfl, _, rfl⟩ z' (hk _ _ hTIz hTI) (c1 _ _ d1) (c2 _ _ d2) (c3 _ _ d3) hsz hk
  rcases zs with ⟨hz, a1, a2, a3, hTO⟩ | ⟨T, f, o, hz, hTo, hTn⟩
  · refine wpAny_pyNext_zipD3_item sp D1 D2 D3 hz hTI hTO s1 s2 s3 (by omega) (by omega) (by omega) fun x1 x2 x3 h' tk y1 y2 y3 b1 b2 d1 d2 d3 b5 b6 hk => ?_
    exact fin x1 x2 x3 h' tk y1 y2 y3 (.inr ⟨_, false, _, b1, b5, hT⟩) d1 d2 d3 b5 b6 fun b o hb e => hk b o (fun q => hb (by simp [q])) (fun q => hb (by simp [q])) (fun q => hb (by simp [q])) (fun q => hb (by simp [q])) (fun q => hb (by simp [q])) e
  · refine next_zip3_held sp D1 D2 D3 hz hTo hTI s1 s2 s3 (by omega) (by omega) (by omega) fun x1 x2 x3 h' tk y1 y2 y3 b1 d1 d2 d3 b5 b6 hk => ?_
    have kp : ∀ b o, b ∉ [z, TO, i1, i2, i3] → s.heap.get? b = some o → h'.get? b = some o := fun b o hb e => hk b o (fun q => hb (by simp [q])) (fun q => hb (by simp [q])) (fun q => hb (by simp [q])) (fun q => hb (by simp [q])) e
    refine fin x1 x2 x3 h' tk y1 y2 y3 (.inr ⟨T, true, o, b1, kp _ _ (fun hm => hTn ?_) hTo, hTn⟩) d1 d2 d3 b5 b6 kp
    simp only [List.mem_cons, List.not_mem_nil, or_false] at hm ⊢
    rcases hm with q | q | q | q | q <;> simp [q]
theorem z3_done (hh : A.in1.handled = none) (nd : [S, z, TI, TO, i1, i2, i3].Nodup) (I : Inv X pins σ H s) (hf : ∀ b ∈ [S, z, TI, TO, i1, i2, i3], FpOk X pins H b) (in1 : k1.isIn H) (in2 : k2.isIn H) (in3 : k3.isIn H)
    (zs : Z3St s.heap S z TI TO i1 i2 i3) (hTI : IsTupOf3 s.heap TI (.ref i1) (.ref i2) (.ref i3)) (g1 : k1.it i1 i s.heap) (g2 : k2.it i2 i s.heap) (g3 : k3.it i3 i s.heap) (hi : i = min (min k1.n k2.n) k3.n) {Q : Option Value → Shared → Prop}
    (hQ : ∀ h' tk, (∀ b o, b ∉ [z, TO, i1, i2, i3] → s.heap.get? b = some o → h'.get? b = some o) → Q none { s with heap := h', toks := tk }) :
    wpAny (model X.prog X.w) A (pyNext (.ref z)) Q E s := by
  obtain ⟨sf1, P1, S1, D1, s1, c1, e1, n1⟩ := (k1.draws I hh in1 (hf i1 (by simp)).1 g1).ex
  obtain ⟨sf2, P2, S2, D2, s2, c2, e2, n2⟩ := (k2.draws I hh in2 (hf i2 (by simp)).1 g2).ex
  obtain ⟨sf3, P3, S3, D3, s3, c3, e3, n3⟩ := (k3.draws I hh in3 (hf i3 (by simp)).1 g3).ex
  have sp := z3_sep nd hf n1 n2 n3
  rcases zs with ⟨hz, a1, a2, a3, hTO⟩ | ⟨T, f, o, hz, hTo, hTn⟩
  · exact wpAny_pyNext_zipD3_end sp D1 D2 D3 hz hTI hTO s1 s2 s3 (by omega) (by omega) (by omega) (by omega) fun h' tk hk => hQ h' tk fun b o hb e => hk b o (fun q => hb (by simp [q])) (fun q => hb (by simp [q])) (fun q => hb (by simp [q])) (fun q => hb (by simp [q])) (fun q => hb (by simp [q])) e
  · exact end_zip3_held sp D1 D2 D3 hz hTo hTI s1 s2 s3 (by omega) (by omega) (by omega) (by omega) fun h' tk hk => hQ h' tk fun b o hb e => hk b o (fun q => hb (by simp [q])) (fun q => hb (by simp [q])) (fun q => hb (by simp [q])) (fun q => hb (by simp [q])) e
theorem SrcK.isIn_upd {k : SrcK} (h : k.isIn H) {T : Addr} {o : HO} (hT : H T = none) : k.isIn (upd H T o) := by
  cases k with
  | lst a xs =>
    have h : H a = some (.lst xs) := h
    show upd H T o a = _
    rw [upd_ne (ne_of_none h hT)]
    exact h
  | tup a xs =>
    have h : H a = some (.tup xs) := h
    show upd H T o a = _
    rw [upd_ne (ne_of_none h hT)]
    exact h
  | txt z => trivial
theorem vals_snoc : ∀ {vs : List V} {us : List Value} {v : V} {u : Value}, Vals vs us → RelV v u → Vals (vs ++ [v]) (us ++ [u])
  | _, _, _, _, .nil, r => .cons r .nil
  | _, _, _, _, .cons a t, r => .cons a (vals_snoc t r)
/-- the list is filled -/
theorem ext_zip3 (hh : A.handled = none) (nd : [S, z, TI, TO, i1, i2, i3].Nodup) {n : Nat} (hn : n = min (min k1.n k2.n) k3.n) (hz : n ≤ sizeLine) {res : Value} {R : Result → Shared → Prop} {G : Nat → List V → Hp → Prop}
    (hG : ∀ i ws H T a b c, G i ws H → H T = none → k1.at' i = some a → k2.at' i = some b → k3.at' i = some c → G (i + 1) (ws ++ [.ref T]) (upd H T (.tup [a, b, c]))) :
    ∀ (k i : Nat) (s : Shared) (H : Hp) (acc : Array Value) (c : Nat) (ws : List V), n - i = k → i ≤ n → Inv X pins σ H s → (∀ b ∈ [S, z, TI, TO, i1, i2, i3], FpOk X pins H b) → (∀ b ∈ [S, z, TI, TO, i1, i2, i3], b < s.heap.objs.size) → k1.isIn H → k2.isIn H → k3.isIn H →
      Z3St s.heap S z TI TO i1 i2 i3 → IsTupOf3 s.heap TI (.ref i1) (.ref i2) (.ref i3) → k1.it i1 i s.heap → k2.it i2 i s.heap → k3.it i3 i s.heap → s.heap.get? S = some { cls := .type "list", dict := none, data := .seq acc c, slots := #[] } → Vals ws acc.toList → acc.size = i → G i ws H →
      (∀ s' H' acc' c' ws', Inv X pins σ H' s' → FpOk X pins H' S → s'.heap.get? S = some { cls := .type "list", dict := none, data := .seq acc' c', slots := #[] } → Vals ws' acc'.toList → acc'.size = n → G n ws' H' → R (.ok (.ret res)) s') →
      codeAny (model X.prog X.w) A (.builtin "list.extend.loop" ⟨[.ref S, .ref z, res], []⟩) R s := by
  have hh1 : A.in1.in1.handled = none := hh
  have nd' := nd
  simp only [List.nodup_cons, List.mem_cons, List.not_mem_nil, or_false, not_or] at nd'
  obtain ⟨⟨y1, y2, y3, y4, y5, y6⟩, _⟩ := nd'
  have hSw : S ∉ [z, TO, i1, i2, i3] := by simp [y1, y3, y4, y5, y6]
  intro k
  induction k with
  | zero =>
    intro i s H acc c ws hk hi I hf hl in1 in2 in3 zs hTI g1 g2 g3 hS hv ha hg hR
    have hin : i = n := by omega
    subst hin
    refine codeAny_builtin F.entry_extend_loop ?_
    rw [Around.under_plainId F.plain_extend_loop _]
    show wpAny _ A.in1 (pyNext (.ref z) >>= _) _ _ s
    refine wpAny_bind (z3_done hh1 nd I hf in1 in2 in3 zs hTI g1 g2 g3 hn fun h' tk kp => ?_)
    have I2 : Inv X pins σ H { s with heap := h', toks := tk } := by
      refine I.turnedL (ch := [z, TO, i1, i2, i3]) kp fun b hb => hf b ?_
      simp only [List.mem_cons, List.not_mem_nil, or_false] at hb ⊢
      rcases hb with q | q | q | q | q <;> simp [q]
    exact wpAny_pure (hR _ H acc c ws I2 (hf S (by simp)) (kp _ _ hSw hS) hv ha hg)
  | succ k ih =>
    intro i s H acc c ws hk hi I hf hl in1 in2 in3 zs hTI g1 g2 g3 hS hv ha hg hR
    refine codeAny_builtin F.entry_extend_loop ?_
    rw [Around.under_plainId F.plain_extend_loop _]
    show wpAny _ A.in1 (pyNext (.ref z) >>= _) _ _ s
    refine wpAny_bind (z3_item hh1 nd I hf hl in1 in2 in3 zs hTI g1 g2 g3 (by omega) fun h' tk a b c' us ea eb ec rv ht z' hTI' g1' g2' g3' hsz kp => ?_)
    have hS' := kp _ _ hSw hS
    have hTn : H s.heap.objs.size = none := I.hok.fresh (Nat.le_refl _)
    have hTf : s.heap.objs.size ∉ [S, z, TI, TO, i1, i2, i3] := fun hm => Nat.lt_irrefl _ (hl _ hm)
    have hTS : s.heap.objs.size ≠ S := fun e => hTf (by simp [e])
    show wpAny _ A.in1 (updateSeq S (·.push (.ref s.heap.objs.size)) >>= _) _ _ _
    refine wpAny_bind ?_
    refine wpAny_updateSeq (s := { s with heap := h', toks := tk }) hS' rfl (wpAny_pure ⟨plainId_quiet F.plain_extend_loop _, ?_⟩) (by rw [ha]; omega) (by show (acc.push _).size ≤ sizeLine + 1; rw [Array.size_push, ha]; omega)
    have hk2 : ∀ b o, b ≠ S → h'.get? b = some o → (h'.update S (Obj.mapSeq (·.push (.ref s.heap.objs.size)))).get? b = some o := fun b o hb e => (Heap.get?_update_other _ _ (Ne.symm hb)).trans e
    have new : ObjOk X.prog X.w (upd H s.heap.objs.size (.tup [a, b, c'])) (h'.update S (Obj.mapSeq (·.push (.ref s.heap.objs.size)))) s.heap.objs.size (.tup [a, b, c']) := ⟨by show 3 ≤ sizeLine; decide, us, rv, ⟨ht.choose, hk2 _ _ hTS ht.choose_spec.1, ht.choose_spec.2⟩⟩
    have I2 : Inv X pins σ (upd H s.heap.objs.size (.tup [a, b, c'])) { s with heap := h'.update S (Obj.mapSeq (·.push (.ref s.heap.objs.size))), toks := tk } := by
      refine I.turnedNew (ch := [S, z, TO, i1, i2, i3]) (fun b o hb e => hk2 b o (fun q => hb (by simp [q])) (kp b o (fun q => hb (List.mem_cons_of_mem _ q)) e)) (fun b hb => hf b ?_) (Nat.le_refl _) new
      simp only [List.mem_cons, List.not_mem_nil, or_false] at hb ⊢
      rcases hb with q | q | q | q | q | q <;> simp [q]
    have up : ∀ {k : SrcK} {j : Addr} {p : Nat}, j ∈ [z, TI, TO, i1, i2, i3] → k.it j p h' → k.it j p (h'.update S (Obj.mapSeq (·.push (.ref s.heap.objs.size)))) := fun {k j p} hj st => SrcK.it_keep st fun o q => hk2 j o (fun e => by
      subst e
      simp only [List.mem_cons, List.not_mem_nil, or_false] at hj
      rcases hj with q | q | q | q | q | q
      · exact y1 q
      · exact y2 q
      · exact y3 q
      · exact y4 q
      · exact y5 q
      · exact y6 q) q
    refine ih (i + 1) _ _ (acc.push (.ref s.heap.objs.size)) _ (ws ++ [.ref s.heap.objs.size]) (by omega) (by omega) I2 (fun b hb => ⟨?_, (hf b hb).2⟩) (fun b hb => ?_) (SrcK.isIn_upd (k := k1) in1 hTn) (SrcK.isIn_upd (k := k2) in2 hTn) (SrcK.isIn_upd (k := k3) in3 hTn)
      (z'.keep ⟨Ne.symm y1, Ne.symm y3⟩ hk2) (hk2 _ _ (Ne.symm y2) hTI') (up (by simp) g1') (up (by simp) g2') (up (by simp) g3') (Heap.get?_update_self _ hS' rfl) ?_ ?_ (hG i ws H _ a b c' hg hTn ea eb ec) hR
    · rw [upd_ne (fun e => hTf (by rw [← e]; exact hb))]
      exact (hf b hb).1
    · show b < (h'.update S _).objs.size
      rw [Heap.size_update, hsz]
      exact Nat.lt_succ_of_lt (hl b hb)
    · rw [Array.toList_push]
      exact vals_snoc hv rfl
    · rw [Array.size_push, ha]

/-- list(..) of a zip over three that has come -/
theorem list_zip3 (hc : X.calm = true) (hA : X.A.handled = none) (nd : [z, TI, TO, i1, i2, i3].Nodup) (I : Inv X pins σ H s) (hf : ∀ b ∈ [z, TI, TO, i1, i2, i3], FpOk X pins H b) (hl : ∀ b ∈ [z, TI, TO, i1, i2, i3], b < s.heap.objs.size) (in1 : k1.isIn H) (in2 : k2.isIn H) (in3 : k3.isIn H)
    (hz : IsZip s.heap z TI TO .none) (hTO : ∃ x y u, IsTupOf3 s.heap TO x y u) (hTI : IsTupOf3 s.heap TI (.ref i1) (.ref i2) (.ref i3)) (g1 : k1.it i1 0 s.heap) (g2 : k2.it i2 0 s.heap) (g3 : k3.it i3 0 s.heap) {n : Nat} (hn : n = min (min k1.n k2.n) k3.n) (hsz : n ≤ sizeLine) {G : Nat → List V → Hp → Prop} {Q : VK}
    (h0 : G 0 [] H) (hG : ∀ i ws H T a b c, G i ws H → H T = none → k1.at' i = some a → k2.at' i = some b → k3.at' i = some c → G (i + 1) (ws ++ [.ref T]) (upd H T (.tup [a, b, c]))) (hQ : ∀ ws H', G n ws H' → ∀ S, H' S = none → Q (.ref S) (upd H' S (.lst ws))) :
    wpAny (model X.prog X.w) X.A (call (.type "list") [.ref z]) (EP X pins σ Q) X.xe s := by
  refine callType_codes (Q₁ := fun obj s₁ => obj = .ref s.heap.objs.size ∧ s₁ = { s with heap := s.heap.push { cls := .type "list", data := .seq #[] } }) F.called_list (F.typeCall_list_1 _) F.entry_list_init
    (code_list_new _ ⟨rfl, rfl⟩) fun obj s₁ h₁ => ?_
  obtain ⟨rfl, rfl⟩ := h₁
  have hS : (s.heap.push { cls := .type "list", data := .seq #[] }).get? s.heap.objs.size = some { cls := .type "list", data := .seq #[] } := Heap.get?_push_size _ rfl
  refine ⟨⟨_, hS, rfl⟩, F.args_list_init_2 _ _, ?_⟩
  generalize hSe : s.heap.objs.size = S at hS
  have hSn : S ∉ [z, TI, TO, i1, i2, i3] := fun hm => Nat.lt_irrefl S (by have q := hl S hm; rw [hSe] at q; exact q)
  have ndS : [S, z, TI, TO, i1, i2, i3].Nodup := List.nodup_cons.mpr ⟨hSn, nd⟩
  have hSz : S ≠ z := fun e => hSn (by simp [e])
  have keep1 : ∀ b o, s.heap.get? b = some o → (s.heap.push { cls := .type "list", data := .seq #[] }).get? b = some o := fun b o e => Heap.get?_push_of_some _ e
  generalize hh1e : s.heap.push { cls := .type "list", data := .seq #[] } = h1 at hS keep1
  have hsz1 : h1.objs.size = S + 1 := by rw [← hh1e, Heap.size_push, hSe]
  show wpAny _ _ (do let old ← Builtin.List.listItems (.ref S); Builtin.List.listUpdate (.ref S) (fun _ => #[]); letGo old.toList.reverse; Builtin.List.listExtendWith (.ref S) (.ref z) .none) _ _ _
  refine wpAny_bind ?_
  unfold Builtin.List.listItems
  refine wpAny_bind (wpAny_seqItems hS rfl (wpAny_pure ?_))
  show wpAny _ _ (updateSeq S (fun _ => #[]) >>= fun _ => letGo (#[] : Array Value).toList.reverse >>= fun _ => Builtin.List.listExtendWith (.ref S) (.ref z) .none) _ _ _
  refine wpAny_bind (wpAny_updateSeq hS rfl ?_)
  have hS2 := Heap.get?_update_self (Obj.mapSeq (fun _ => (#[] : Array Value))) hS rfl
  have keep2 : ∀ b o, b ≠ S → s.heap.get? b = some o → (h1.update S (Obj.mapSeq (fun _ => (#[] : Array Value)))).get? b = some o := fun b o hb e => (Heap.get?_update_other _ _ (Ne.symm hb)).trans (keep1 b o e)
  have hsz2 : (h1.update S (Obj.mapSeq (fun _ => (#[] : Array Value)))).objs.size = S + 1 := by rw [Heap.size_update, hsz1]
  generalize h1.update S (Obj.mapSeq (fun _ => (#[] : Array Value))) = h2 at hS2 keep2 hsz2
  refine wpAny_bind (wpAny_letGo ?_)
  have hz2 : IsZip h2 z TI TO .none := keep2 _ _ (Ne.symm hSz) hz
  have hTy : ({ s with heap := h2 } : Shared).TypeIs (.ref z) "zip" := ⟨_, hz2, rfl⟩
  unfold Builtin.List.listExtendWith
  refine wpAny_bind (wpAny_typeOf hTy ?_)
  have e1 : Builtin.List.listSameRef (.ref S) (.ref z) = false := by simp [Builtin.List.listSameRef, hSz]
  have e2 : (Value.type "zip" == Value.type "list") = false := by decide
  have e3 : (Value.type "zip" == Value.type "tuple") = false := by decide
  simp only [e1, e2, e3, Bool.or_false, Bool.false_eq_true, if_false]
  refine wpAny_bind (wpAny_pyIter_zip hz2 ?_)
  refine wpAny_bind (wpAny_holding ?_)
  unfold Builtin.List.listLengthHint
  refine wpAny_bind (wpAny_specialOf hTy F.zip_no_len ?_)
  show wpAny _ _ (specialOf (Value.ref z) (Str.ofString "__length_hint__") >>= _) _ _ _
  refine wpAny_bind (wpAny_specialOf hTy F.zip_no_hint ?_)
  refine wpAny_pure ?_
  show wpAny _ _ (rule "list.extend.makes-room" >>= fun _ => Builtin.List.listTouch (.ref S) >>= fun _ => again (.builtin "list.extend.loop" ⟨[.ref S, .ref z, .none], []⟩)) _ _ _
  refine wpAny_bind (wpAny_rule ?_)
  refine wpAny_bind ?_
  show wpAny _ _ (updateSeq S (·.push .none) >>= fun _ => updateSeq S (·.pop)) _ _ _
  refine wpAny_bind (wpAny_updateSeq (s := { s with heap := h2 }) hS2 rfl ?_)
  have hS3 := Heap.get?_update_self (Obj.mapSeq (·.push Value.none)) hS2 rfl
  refine wpAny_updateSeq hS3 rfl ?_
  have hS4 := Heap.get?_update_self (Obj.mapSeq (·.pop)) hS3 rfl
  have keep4 : ∀ b o, b ≠ S → s.heap.get? b = some o → ((h2.update S (Obj.mapSeq (·.push Value.none))).update S (Obj.mapSeq (·.pop))).get? b = some o := fun b o hb e => (Heap.get?_update_other _ _ (Ne.symm hb)).trans ((Heap.get?_update_other _ _ (Ne.symm hb)).trans (keep2 b o hb e))
  have hsz4 : ((h2.update S (Obj.mapSeq (·.push Value.none))).update S (Obj.mapSeq (·.pop))).objs.size = S + 1 := by rw [Heap.size_update, Heap.size_update, hsz2]
  generalize (h2.update S (Obj.mapSeq (·.push Value.none))).update S (Obj.mapSeq (·.pop)) = h4 at hS4 keep4 hsz4
  have neS : ∀ b ∈ [z, TI, TO, i1, i2, i3], b ≠ S := fun b hb e => hSn (by rw [← e]; exact hb)
  have hSH : H S = none := I.hok.fresh (Nat.le_of_eq hSe)
  have I4 : Inv X pins σ H { s with heap := h4, toks := s.toks } := I.kept (t' := s.toks) fun b o e => keep4 b o (fun q => by
    have q2 := Heap.lt_size e
    rw [hSe, q] at q2
    exact Nat.lt_irrefl _ q2) e
  have fS : FpOk X pins H S := I.fpOk (Nat.le_of_eq hSe) hSH
  have itk : ∀ {k : SrcK} {j : Addr}, j ∈ [z, TI, TO, i1, i2, i3] → k.it j 0 s.heap → k.it j 0 h4 := fun {k j} hj st => SrcK.it_keep st fun o q => keep4 j o (neS j hj) q
  obtain ⟨x, y, u, hTO⟩ := hTO
  refine wpAny_pure ⟨plainId_quiet F.plain_extend_loop _, ?_⟩
  refine ext_zip3 (A := X.A.in1) (k1 := k1) (k2 := k2) (k3 := k3) hA ndS hn hsz hG n 0 { s with heap := h4 } H _ _ [] rfl (Nat.zero_le _) I4 (fun b hb => ?_) (fun b hb => ?_) in1 in2 in3
    (.inl ⟨keep4 _ _ (neS _ (by simp)) hz, x, y, u, keep4 _ _ (neS _ (by simp)) hTO⟩) (keep4 _ _ (neS _ (by simp)) hTI) (itk (by simp) g1) (itk (by simp) g2) (itk (by simp) g3) hS4 .nil rfl h0 fun s' H' acc' c' ws' I5 f5 hS5 hv5 ha5 hg5 => ?_
  · rcases List.mem_cons.mp hb with q | q
    · rw [q]; exact fS
    · exact hf b q
  · show b < h4.objs.size
    rcases List.mem_cons.mp hb with q | q
    · rw [hsz4, q]
      exact Nat.lt_succ_self _
    · have q2 := hl b q
      rw [hSe] at q2
      rw [hsz4]
      exact Nat.lt_succ_of_lt q2
  · refine ⟨rfl, .ref S, upd H' S (.lst ws'), ?_, rfl, hQ ws' H' hg5 S f5.1⟩
    exact I5.take (t' := s'.toks) (h' := s'.heap) (fun b o _ e => e) f5 (show ObjOk X.prog X.w _ _ _ (.lst ws') from ⟨by rw [hv5.length, Array.length_toList, ha5]; exact hsz, acc'.toList, c', hv5, by rw [Array.toArray_toList]; exact hS5⟩)
end
end Dl
set_option autoImplicit true
/-! The data layer: sorted of ints, of texts; list(zip(..)) of fields, list of a list field. -/
namespace Dl
open PySem PySem.Spec PyProof.Rows L2 TL
/-! ### sorting -/
def insI (i : Int) : List Int → List Int
  | [] => [i]
  | j :: l => if i ≤ j then i :: j :: l else j :: insI i l
def sortI : List Int → List Int
  | [] => []
  | i :: l => insI i (sortI l)
theorem insI_perm (i : Int) : ∀ l : List Int, (insI i l).Perm (i :: l)
  | [] => .refl _
  | j :: l => by
    unfold insI
    by_cases h : i ≤ j
    · rw [if_pos h]
    · rw [if_neg h]
      exact (List.Perm.cons j (insI_perm i l)).trans (.swap i j l)
theorem sortI_perm : ∀ l : List Int, (sortI l).Perm l
  | [] => .refl _
  | i :: l => (insI_perm i (sortI l)).trans (.cons i (sortI_perm l))
theorem insI_up (i : Int) : ∀ l : List Int, l.Pairwise (· ≤ ·) → (insI i l).Pairwise (· ≤ ·)
  | [], _ => by simp [insI]
  | j :: l, h => by
    obtain ⟨h1, h2⟩ := List.pairwise_cons.mp h
    unfold insI
    by_cases c : i ≤ j
    · rw [if_pos c]
      refine List.pairwise_cons.mpr ⟨fun k hk => ?_, h⟩
      rcases List.mem_cons.mp hk with rfl | hk
      · exact c
      · exact Int.le_trans c (h1 k hk)
    · rw [if_neg c]
      refine List.pairwise_cons.mpr ⟨fun k hk => ?_, insI_up i l h2⟩
      rcases List.mem_cons.mp ((insI_perm i l).mem_iff.mp hk) with rfl | hk
      · omega
      · exact h1 k hk
theorem sortI_up : ∀ l : List Int, (sortI l).Pairwise (· ≤ ·)
  | [] => .nil
  | i :: l => insI_up i _ (sortI_up l)
theorem sortI_eq {ns ns' : List Int} (p : ns'.Perm ns) (h : ns'.Pairwise (· ≤ ·)) : ns' = sortI ns := by
  have q := p.trans (sortI_perm ns).symm
  first
    | exact q.eq_of_pairwise (fun x y _ _ h1 h2 => Int.le_antisymm h1 h2) h (sortI_up ns)
    | exact List.Perm.eq_of_pairwise (fun x y _ _ h1 h2 => Int.le_antisymm h1 h2) h (sortI_up ns) q
/-- a text is no later than another -/
def leT (a b : List Nat) : Bool := !ltCps b a
theorem ltC_irr : ∀ a : List Nat, ltCps a a = false
  | [] => rfl
  | a :: r => by simp [ltCps, ltC_irr r]
theorem ltC_tri : ∀ a b : List Nat, ltCps a b = false → ltCps b a = false → a = b
  | [], [], _, _ => rfl
  | [], _ :: _, h, _ => by simp [ltCps] at h
  | _ :: _, [], _, h => by simp [ltCps] at h
  | a :: r, b :: t, h1, h2 => by
    simp only [ltCps, Bool.or_eq_false_iff, decide_eq_false_iff_not, Bool.and_eq_false_iff, beq_eq_false_iff_ne] at h1 h2
    have e : a = b := by omega
    subst e
    rw [ltC_tri r t (by simpa using h1.2) (by simpa using h2.2)]
theorem ltC_asym : ∀ a b : List Nat, ltCps a b = true → ltCps b a = false
  | [], [], h => by simp [ltCps] at h
  | [], _ :: _, _ => rfl
  | _ :: _, [], h => by simp [ltCps] at h
  | a :: r, b :: t, h => by
    simp only [ltCps, Bool.or_eq_true, decide_eq_true_eq, Bool.and_eq_true, beq_iff_eq, Bool.or_eq_false_iff, decide_eq_false_iff_not, Bool.and_eq_false_iff, beq_eq_false_iff_ne] at h ⊢
    rcases h with h | ⟨h1, h2⟩
    · exact ⟨by omega, .inl (by omega)⟩
    · exact ⟨by omega, .inr (ltC_asym r t h2)⟩
theorem leT_trans : ∀ a b c : List Nat, leT a b = true → leT b c = true → leT a c = true
  | [], _, c, _, _ => by cases c <;> rfl
  | a :: r, [], c, h, _ => by simp [leT, ltCps] at h
  | a :: r, b :: t, [], _, h => by simp [leT, ltCps] at h
  | a :: r, b :: t, c :: u, h1, h2 => by
    have ih := leT_trans r t u
    simp only [leT, ltCps, Bool.not_eq_true', Bool.or_eq_false_iff, decide_eq_false_iff_not, Bool.and_eq_false_iff, beq_eq_false_iff_ne] at h1 h2 ih ⊢
    refine ⟨by omega, ?_⟩
    by_cases e : c = a
    · right
      have e1 : b = a := by omega
      refine ih (h1.2.resolve_left (by omega)) (h2.2.resolve_left (by omega))
    · exact .inl e
theorem leT_total (a b : List Nat) : leT a b = true ∨ leT b a = true := by
  cases h : ltCps b a with
  | false => left; simp [leT, h]
  | true => right; simp [leT, ltC_asym b a h]
def insT (i : List Nat) : List (List Nat) → List (List Nat)
  | [] => [i]
  | j :: l => if leT i j = true then i :: j :: l else j :: insT i l
def sortT : List (List Nat) → List (List Nat)
  | [] => []
  | i :: l => insT i (sortT l)
theorem insT_perm (i : List Nat) : ∀ l : List (List Nat), (insT i l).Perm (i :: l)
  | [] => .refl _
  | j :: l => by
    unfold insT
    by_cases h : leT i j = true
    · rw [if_pos h]
    · rw [if_neg h]
      exact (List.Perm.cons j (insT_perm i l)).trans (.swap i j l)
theorem sortT_perm : ∀ l : List (List Nat), (sortT l).Perm l
  | [] => .refl _
  | i :: l => (insT_perm i (sortT l)).trans (.cons i (sortT_perm l))
theorem insT_up (i : List Nat) : ∀ l : List (List Nat), l.Pairwise (leT · · = true) → (insT i l).Pairwise (leT · · = true)
  | [], _ => by simp [insT]
  | j :: l, h => by
    obtain ⟨h1, h2⟩ := List.pairwise_cons.mp h
    unfold insT
    by_cases c : leT i j = true
    · rw [if_pos c]
      refine List.pairwise_cons.mpr ⟨fun k hk => ?_, h⟩
      rcases List.mem_cons.mp hk with rfl | hk
      · exact c
      · exact leT_trans _ _ _ c (h1 k hk)
    · rw [if_neg c]
      refine List.pairwise_cons.mpr ⟨fun k hk => ?_, insT_up i l h2⟩
      rcases List.mem_cons.mp ((insT_perm i l).mem_iff.mp hk) with rfl | hk
      · exact (leT_total _ _).resolve_left c
      · exact h1 k hk
theorem sortT_up : ∀ l : List (List Nat), (sortT l).Pairwise (leT · · = true)
  | [] => .nil
  | i :: l => insT_up i _ (sortT_up l)
theorem leT_anti {a b : List Nat} (h1 : leT a b = true) (h2 : leT b a = true) : a = b := ltC_tri a b (by simpa [leT] using h2) (by simpa [leT] using h1)
theorem sortT_eq {ns ns' : List (List Nat)} (p : ns'.Perm ns) (h : ns'.Pairwise (leT · · = true)) : ns' = sortT ns := by
  have q := p.trans (sortT_perm ns).symm
  first
    | exact q.eq_of_pairwise (fun x y _ _ h1 h2 => leT_anti h1 h2) h (sortT_up ns)
    | exact List.Perm.eq_of_pairwise (fun x y _ _ h1 h2 => leT_anti h1 h2) h (sortT_up ns) q
theorem rising_up : ∀ (p : Str) (l : List Str), risingS p l = true → (p.cps.toList :: l.map fun x => x.cps.toList).Pairwise (leT · · = true)
  | p, [], _ => by simp
  | p, x :: r, h => by
    have h : (!ltCps x.cps.toList p.cps.toList && risingS x r) = true := h
    rw [Bool.and_eq_true] at h
    have ih := rising_up x r h.2
    refine List.pairwise_cons.mpr ⟨fun k hk => ?_, by simpa using ih⟩
    have h0 : leT p.cps.toList x.cps.toList = true := h.1
    rw [List.map_cons] at hk
    rcases List.mem_cons.mp hk with rfl | hk
    · exact h0
    · exact leT_trans _ _ _ h0 ((List.pairwise_cons.mp ih).1 k hk)
theorem sorted_up : ∀ (l : List Str), sortedS l = true → (l.map fun x => x.cps.toList).Pairwise (leT · · = true)
  | [], _ => .nil
  | x :: r, h => rising_up x r h
section
variable {prog : Program} {w : World} {A : Around} {E : Value → Shared → Prop} {s : Shared}
theorem collect_tupL {l : Addr} {vs : List Value} {Q : List Value → Shared → Prop} (hl : IsTup s.heap l vs.toArray)
    (h : Q vs { s with heap := (s.heap.push (seqObj "list" #[] 0)).update s.heap.objs.size (Obj.mapSeq (· ++ vs.toArray)) }) (hsz : vs.length ≤ sizeLine) :
    wpAny (model prog w) A (collect (.ref l)) Q E s := by
  obtain ⟨o, ho, hc, n, hd⟩ := id hl
  unfold collect
  refine wpAny_bind (wpAny_runValue (codeAny_builtin entry_proto_collect' ?_))
  show wpAny _ _ (do again (.builtin "list.__iadd__" ⟨[← newList [], .ref l], []⟩)) _ _ s
  refine wpAny_bind (wpAny_newList (wpAny_pure ⟨Code.quiet_builtin _ (by decide +kernel), codeAny_builtin entry_list_iadd' ?_⟩))
  show wpAny _ _ (Builtin.List.listExtendWith (.ref s.heap.objs.size) (.ref l) (.ref s.heap.objs.size)) _ _ { s with heap := s.heap.push (seqObj "list" #[] 0) }
  unfold Builtin.List.listExtendWith
  have ho' : (s.heap.push (seqObj "list" #[] 0)).get? l = some o := Heap.get?_push_of_some _ ho
  refine wpAny_bind (wpAny_typeOf (T := "tuple") ⟨o, ho', hc⟩ ?_)
  have ht : (Value.type "tuple" == Value.type "tuple") = true := by rfl
  rw [if_pos (by rw [ht]; simp)]
  refine wpAny_bind (listItems_at ho' hd ?_)
  refine wpAny_bind (listItems_at (xs := #[]) (n := 0) (Heap.get?_push_size _ rfl) rfl ?_)
  rw [if_neg (by simp)]
  refine wpAny_bind (listUpdate_at (xs := #[]) (n := 0) (Heap.get?_push_size _ rfl) rfl ?_ (Nat.zero_le _) (by show (#[] ++ vs.toArray).size ≤ sizeLine + 1; simp only [Array.size_append, List.size_toArray, List.length_nil]; omega))
  refine wpAny_pure ?_
  show wpAny (model prog w) A (do
      let o ← load s.heap.objs.size
      match o.data with
      | .seq xs _ => pure xs.toList
      | _ => unsupported "internal:collect") Q E { s with heap := (s.heap.push (seqObj "list" #[] 0)).update s.heap.objs.size (Obj.mapSeq (· ++ vs.toArray)) }
  refine wpAny_bind (wpAny_load (get?_update_seq (Heap.get?_push_size _ rfl) _) ?_)
  show wpAny _ _ (pure ((#[] : Array Value) ++ vs.toArray).toList) Q E _
  rw [show ((#[] : Array Value) ++ vs.toArray).toList = vs by simp]
  exact wpAny_pure h
theorem sortedTup_int {l : Addr} {vs : List Value} {ns : List Int} {Q : Value → Shared → Prop} (hl : IsTup s.heap l vs.toArray) (hI : IntsAre vs ns) (hL : vs.length ≤ sizeLine)
    (h : ∀ (out : Array Value) (ns' : List Int), IntsAre out.toList ns' → ns'.Perm ns → ns'.Pairwise (· ≤ ·) → Q (.ref (s.heap.objs.size + 1)) { s with heap := sortedAll s.heap vs out }) :
    wpAny (model prog w) A (call (.builtin "sorted") [.ref l]) Q E s := by
  refine Calls.call_function_entry kind_sorted plain_sorted entry_sorted (args_sorted1 _) ?_
  unfold Builtin.«sorted»
  refine wpAny_bind (m := checkCount "sorted" 1 1 _) (wpAny_pure ?_)
  refine wpAny_bind (collect_tupL hl ?_ hL)
  refine wpAny_bind (wpAny_newList ?_)
  have hsz : ((s.heap.push (seqObj "list" #[] 0)).update s.heap.objs.size (Obj.mapSeq (· ++ vs.toArray))).objs.size = s.heap.objs.size + 1 := by
    rw [Heap.size_update, size_push']
  have hoL : (((s.heap.push (seqObj "list" #[] 0)).update s.heap.objs.size (Obj.mapSeq (· ++ vs.toArray))).push (seqObj "list" vs.toArray 0)).get? (s.heap.objs.size + 1) = some (seqObj "list" vs.toArray 0) := by
    rw [← hsz]; exact Heap.get?_push_size _ rfl
  show wpAny _ _ _ _ _ { s with heap := ((s.heap.push (seqObj "list" #[] 0)).update s.heap.objs.size (Obj.mapSeq (· ++ vs.toArray))).push (seqObj "list" vs.toArray 0) }
  rw [hsz]
  refine wpAny_bind (wpAny_holding (wpAny_call_entry slot_list_sort ⟨_, hoL, rfl⟩ entry_list_sort (list_sort_treeAny hoL hI hL fun out ns' a1 a2 a3 => ⟨_, rfl, ?_⟩) (args_list_sort _)))
  exact wpAny_pure ⟨_, rfl, h out ns' a1 a2 a3⟩
end
def rSortD (K : PySem.W.Frag) : List V → Hp → VK → Prop := fun vs H Q => (∃ (a : Addr) (ns : List Int), vs = [V.ref a] ∧ (SqL K H a (ns.map V.int) ∨ SqT K H a (ns.map V.int)) ∧ ∀ p, H p = none → Q (.ref p) (upd H p (.lst ((sortI ns).map V.int)))) ∨
  ∃ (a : Addr) (xs : List (List Nat)), vs = [V.ref a] ∧ SqL K H a ((xs.map mkS).map V.str) ∧ ∀ p, H p = none → Q (.ref p) (upd H p (.lst (((sortT xs).map mkS).map V.str)))
theorem cr_sortD {X : Cx} : CallR X (.builtin "sorted") (rSortD X.K) := by
  intro pins s σ H vs us Q I r h
  rcases h with ⟨a, ns, rfl, hs, q⟩ | ⟨a, xs, rfl, hs, q⟩
  · rcases hs with hs | hs
    · obtain ⟨its, rv, hl, hz⟩ := I.list hs
      rw [Vals.ref1 r]
      have hi := rv.ints
      refine PyProof.Rows.sorted_intsAny hl.isList hi (by rw [← rv.length]; exact hz) fun out ns' h1 h2 h3 => ?_
      obtain ⟨ep, he'⟩ := PyProof.Rows.sortedAll_at s.heap its out
      have hlen : (ns'.map V.int).length ≤ sizeLine := by rw [List.length_map, h2.length_eq, ← List.length_map (f := V.int)]; exact hz
      refine ⟨.ref _, upd H (s.heap.objs.size + 1) (.lst (ns'.map V.int)), I.laid (t' := s.toks) (fun _ _ => PyProof.Rows.sortedAll_old) (Nat.le_succ _) ⟨hlen, out.toList, ep, vals_of_ints h1, he'⟩, rfl, ?_⟩
      rw [sortI_eq h2 h3]
      exact q _ (I.hok.fresh (Nat.le_succ _))
    · obtain ⟨its, rv, hl, hz⟩ := I.tuple hs
      rw [Vals.ref1 r]
      have hi := rv.ints
      refine sortedTup_int hl hi (by rw [← rv.length]; exact hz) fun out ns' h1 h2 h3 => ?_
      obtain ⟨ep, he'⟩ := PyProof.Rows.sortedAll_at s.heap its out
      have hlen : (ns'.map V.int).length ≤ sizeLine := by rw [List.length_map, h2.length_eq, ← List.length_map (f := V.int)]; exact hz
      refine ⟨.ref _, upd H (s.heap.objs.size + 1) (.lst (ns'.map V.int)), I.laid (t' := s.toks) (fun _ _ => PyProof.Rows.sortedAll_old) (Nat.le_succ _) ⟨hlen, out.toList, ep, vals_of_ints h1, he'⟩, rfl, ?_⟩
      rw [sortI_eq h2 h3]
      exact q _ (I.hok.fresh (Nat.le_succ _))
  · obtain ⟨its, rv, hl, hz⟩ := I.list hs
    rw [Vals.ref1 r]
    refine PyProof.Rows.sorted_strsAny hl.isList rv.strs (by rw [← rv.length]; exact hz) fun out ys h1 h2 h3 => ?_
    obtain ⟨ep, he'⟩ := PyProof.Rows.sortedAll_at s.heap its out
    have hlen : (ys.map V.str).length ≤ sizeLine := by rw [List.length_map, h2.length_eq, ← List.length_map (f := V.str)]; exact hz
    refine ⟨.ref _, upd H (s.heap.objs.size + 1) (.lst (ys.map V.str)), I.laid (t' := s.toks) (fun _ _ => PyProof.Rows.sortedAll_old) (Nat.le_succ _) ⟨hlen, out.toList, ep, vals_of_strs h1, he'⟩, rfl, ?_⟩
    have e1 : ys.map (fun x => x.cps.toList) = sortT xs := by
      refine sortT_eq ?_ (sorted_up ys h3)
      have := h2.map fun x => x.cps.toList
      rw [List.map_map] at this
      have e2 : xs.map ((fun x : Str => x.cps.toList) ∘ mkS) = xs := by
        have : ((fun x : Str => x.cps.toList) ∘ mkS) = id := by
          funext z
          simp [mkS]
        rw [this, List.map_id]
      rw [e2] at this
      exact this
    have e3 : ys = (sortT xs).map mkS := by
      rw [← e1, List.map_map]
      have : (mkS ∘ fun x : Str => x.cps.toList) = id := by
        funext z
        simp [mkS]
      rw [this, List.map_id]
    rw [e3]
    exact q _ (I.hok.fresh (Nat.le_succ _))
def sortD (l : List D) (m : Sto) : R D := match intsOf l with
  | some ns => .ok (.lst ((sortI ns).map D.int)) m
  | none => match strsD l with
    | some zs => .ok (.lst ((sortT zs).map D.str)) m
    | none => .bad
def fSort : List D → Sto → R D
  | [.lst l], m => sortD l m
  | [.tup l], m => match intsOf l with
    | some ns => .ok (.lst ((sortI ns).map D.int)) m
    | none => .bad
  | _, _ => .bad
theorem reps_ints {F : Hp} {io : List Addr} : ∀ ns : List Int, Reps F io (ns.map D.int) (ns.map V.int)
  | [] => .nil
  | n :: ns => .cons (.int n) (reps_ints ns)
theorem reps_strsT {F : Hp} {io : List Addr} : ∀ ns : List (List Nat), Reps F io (ns.map D.str) ((ns.map mkS).map V.str)
  | [] => .nil
  | n :: ns => .cons (.str n) (reps_strsT ns)
theorem ca_sort (K : PySem.W.Frag) : CaD pw w fSort (rSortD K) := by
  intro x e m s H Q ds vs R ps h
  unfold fSort at h
  split at h
  · obtain ⟨v, rfl, pa⟩ := ps.one
    obtain ⟨p, vs, rfl, hp, q⟩ := pa.lst R
    unfold sortD at h
    cases k : intsOf _ with
    | some ns =>
      rw [k] at h
      have ev := ints_reps q k
      subst ev
      exact .inl ⟨p, ns, rfl, .inl (SqL.of hp), Fin.list R h (reps_ints _)⟩
    | none =>
      rw [k] at h
      dsimp only at h
      cases k2 : strsD _ with
      | none => rw [k2] at h; exact h.elim
      | some zs =>
        rw [k2] at h
        have ev := strs_reps q k2
        subst ev
        exact .inr ⟨p, zs, rfl, SqL.of hp, Fin.list R h (reps_strsT _)⟩
  · obtain ⟨v, rfl, pa⟩ := ps.one
    obtain ⟨p, vs, rfl, _, hp, q⟩ := pa.tup R
    cases k : intsOf _ with
    | some ns =>
      rw [k] at h
      have ev := ints_reps q k
      subst ev
      exact .inl ⟨p, ns, rfl, .inr (SqT.of hp), Fin.list R h (reps_ints _)⟩
    | none => rw [k] at h; exact h.elim
  · exact h.elim
section
variable {X : Cx} {w : Wi} {a : Expr} {fa : SE} {p pos : Pos}
theorem de_sort (hg : Gl X "sorted") (hm : X.mg "sorted" = none) (ha : DK X w a fa) (hs : starEach [a] X.env = [(false, eval a X.env)] := by rfl) (hpl : (backTo pos (starEach [] X.env)).any (·.1) = false := by rfl) : DE X w (.Call (.Name "sorted" p) [a] [] pos) (sCall fSort (aCons fa aNil)) :=
  de_callB cr_sortD (ca_sort _) hg hm PyProof.Rows.boot_sorted (dk_cons ha dk_nil hs) (by decide) (by decide) hs hpl
end
/-! ### list(zip(o.f1, o.f2, o.f3)) -/
def tListZ3 (ta : TA) : TE := fun σ H Q => ta σ H fun vs H1 => ∃ (k1 k2 k3 : SrcK) (n : Nat) (G : Nat → List V → Hp → Prop), vs = [k1.val, k2.val, k3.val] ∧ k1.isIn H1 ∧ k2.isIn H1 ∧ k3.isIn H1 ∧ n = min (min k1.n k2.n) k3.n ∧ n ≤ sizeLine ∧ G 0 [] H1 ∧
  (∀ i ws H' T a b c, G i ws H' → H' T = none → k1.at' i = some a → k2.at' i = some b → k3.at' i = some c → G (i + 1) (ws ++ [.ref T]) (upd H' T (.tup [a, b, c]))) ∧ ∀ ws H', G n ws H' → ∀ S, H' S = none → Q (.ref S) (upd H' S (.lst ws))
section
variable {X : Cx} {e e2 e3 : Expr} {ta : TA} {p p2 pos pos2 : Pos}
theorem pe_listZ3 (hc : X.calm = true) (hg : Gl X "list") (hm : X.mg "list" = none) (hgz : Gl X "zip") (hmz : X.mg "zip" = none) (ha : PA X [e, e2, e3] ta)
    (hs : starEach [e, e2, e3] X.env = (false, eval e X.env) :: starEach [e2, e3] X.env := by rfl) (hpl : (backTo pos2 (starEach [e2, e3] X.env)).any (·.1) = false := by rfl)
    (na : starEach [.Call (.Name "zip" p2) [e, e2, e3] [] pos2] X.env = (false, eval (.Call (.Name "zip" p2) [e, e2, e3] [] pos2) X.env) :: starEach [] X.env := by rfl) :
    PE X (.Call (.Name "list" p) [.Call (.Name "zip" p2) [e, e2, e3] [] pos2] [] pos) (tListZ3 ta) := by
  refine ⟨fun pins s σ H Q I h => ?_⟩
  refine Call_ (ld_blt I hg hm PyProof.Rows.boot_list (PyProof.Rows.callWith_type1 (args_cons (wpAny_mono ?_ (fun v s' hv => args_nil hv) (fun e s' he => he)) na) na))
  refine Call_ (ld_blt I hgz hmz PyProof.Rows.boot_zip (PyProof.Rows.callWith_type1 (thn (ha.run pos2 pins s σ H _ I h) fun us s1 ⟨vs, H1, I1, r1, q1⟩ => ?_) hs hpl))
  obtain ⟨k1, k2, k3, n, G, ex, in1, in2, in3, hn, hz, h0, hG, hQ⟩ := q1
  subst ex
  cases r1 with
  | cons r rr =>
    cases rr with
    | cons r' rr =>
      cases rr with
      | cons r'' rr =>
        cases rr
        obtain ⟨o1, G1, B1, g1, j1⟩ := k1.begins I1 in1 r
        obtain ⟨o2, G2, B2, g2, j2⟩ := k2.begins I1 in2 r'
        obtain ⟨o3, G3, B3, g3, j3⟩ := k3.begins I1 in3 r''
        refine zip_begins3 B1 B2 B3 g1 g2 g3 fun h' hzz hTI hTO h1 h2 h3 hsz hk => ?_
        have I2 : Inv X pins σ H1 { s1 with heap := h' } := I1.kept (t' := s1.toks) hk
        have ne : ∀ i j : Nat, i ≠ j → s1.heap.objs.size + i ≠ s1.heap.objs.size + j := fun i j n e => n (Nat.add_left_cancel e)
        have mem : ∀ c ∈ [s1.heap.objs.size + 5, s1.heap.objs.size + 3, s1.heap.objs.size + 4, s1.heap.objs.size, s1.heap.objs.size + 1, s1.heap.objs.size + 2], s1.heap.objs.size ≤ c ∧ c < s1.heap.objs.size + 6 := fun c hc => by
          simp only [List.mem_cons, List.not_mem_nil, or_false] at hc
          rcases hc with rfl | rfl | rfl | rfl | rfl | rfl <;> omega
        refine list_zip3 (k1 := k1) (k2 := k2) (k3 := k3) (TO := s1.heap.objs.size + 4) hc (I2.ok.hd hc) ?_ I2 (fun c hc => I1.fpOk (mem c hc).1 (I1.hok.fresh (mem c hc).1)) (fun c hc => by rw [hsz]; exact (mem c hc).2) in1 in2 in3 hzz ⟨_, _, _, hTO⟩ hTI (j1 _ _ h1) (j2 _ _ h2) (j3 _ _ h3) hn hz h0 hG hQ
        exact (show ∀ n : Nat, [n + 5, n + 3, n + 4, n, n + 1, n + 2].Nodup from fun n => by simp <;> omega) _
end
/-- what list(zip(..)) tells of three fields: a text or a tuple twice, then a list of the instance's own -/
def sLook (nm : Str) (i : Nat) (f1 f2 f3 : Str) : SE := fun r m => match fldAt nm i f1 r m, fldAt nm i f2 r m, fldAt nm i f3 r m with
  | some (_, .val d1), some (_, .val d2), some (_, .lst l3) => (match itD d1, itD d2 with
    | some l1, some l2 => if l1.length ≤ 1000 then .ok (.lst (List.zipWith (fun x (y : D × D) => .tup [x, y.1, y.2]) l1 (l2.zip l3))) m else .bad
    | _, _ => .bad)
  | _, _, _ => .bad
section
variable {X : Cx} {w : Wi} {nm f1 f2 f3 : Str} {i : Nat} {C : Addr} {o1 o2 o3 : Expr} {p p2 pos pos2 q1 q2 q3 : Pos}
theorem de_look (S : ClsS X.K X.mg nm C) (hn1 : NoAttr X.K C f1) (hn2 : NoAttr X.K C f2) (hn3 : NoAttr X.K C f3) (hc : X.calm = true) (hg : Gl X "list") (hm : X.mg "list" = none) (hgz : Gl X "zip") (hmz : X.mg "zip" = none) (ho1 : PE X o1 (tVar i)) (ho2 : PE X o2 (tVar i)) (ho3 : PE X o3 (tVar i))
    (hb1 : attributeBase o1 f1 X.env (eval o1 X.env) = eval o1 X.env := by rfl) (hb2 : attributeBase o2 f2 X.env (eval o2 X.env) = eval o2 X.env := by rfl) (hb3 : attributeBase o3 f3 X.env (eval o3 X.env) = eval o3 X.env := by rfl)
    (hs : starEach [.Attribute o1 f1 q1, .Attribute o2 f2 q2, .Attribute o3 f3 q3] X.env = (false, eval (.Attribute o1 f1 q1) X.env) :: starEach [.Attribute o2 f2 q2, .Attribute o3 f3 q3] X.env := by rfl)
    (hs2 : starEach [.Attribute o2 f2 q2, .Attribute o3 f3 q3] X.env = (false, eval (.Attribute o2 f2 q2) X.env) :: starEach [.Attribute o3 f3 q3] X.env := by rfl)
    (hs3 : starEach [.Attribute o3 f3 q3] X.env = (false, eval (.Attribute o3 f3 q3) X.env) :: starEach [] X.env := by rfl)
    (hpl : (backTo pos2 (starEach [.Attribute o2 f2 q2, .Attribute o3 f3 q3] X.env)).any (·.1) = false := by rfl)
    (na : starEach [.Call (.Name "zip" p2) [.Attribute o1 f1 q1, .Attribute o2 f2 q2, .Attribute o3 f3 q3] [] pos2] X.env = (false, eval (.Call (.Name "zip" p2) [.Attribute o1 f1 q1, .Attribute o2 f2 q2, .Attribute o3 f3 q3] [] pos2) X.env) :: starEach [] X.env := by rfl) :
    DE X w (.Call (.Name "list" p) [.Call (.Name "zip" p2) [.Attribute o1 f1 q1, .Attribute o2 f2 q2, .Attribute o3 f3 q3] [] pos2] [] pos) (sLook nm i f1 f2 f3) :=
  PE.imp (pe_listZ3 hc hg hm hgz hmz (pa_cons (pe_fld ho1 hb1) (pa_cons (pe_fld ho2 hb2) (pa_cons (pe_fld ho3 hb3) pa_nil hs3) hs2) hs) hs hpl na) fun s H Q ⟨x, r, m, R, q⟩ => by
  unfold sLook at q
  cases h1 : fldAt nm i f1 r m with
  | none => rw [h1] at q; exact q.elim
  | some nc1 =>
    obtain ⟨n1, c1⟩ := nc1
    cases h2 : fldAt nm i f2 r m with
    | none => rw [h1, h2] at q; cases c1 <;> exact q.elim
    | some nc2 =>
      obtain ⟨n2, c2⟩ := nc2
      cases h3 : fldAt nm i f3 r m with
      | none => rw [h1, h2, h3] at q; cases c1 <;> cases c2 <;> exact q.elim
      | some nc3 =>
        obtain ⟨n3, c3⟩ := nc3
        rw [h1, h2, h3] at q
        cases c1 with
        | val d1 =>
          cases c2 with
          | val d2 =>
            cases c3 with
            | lst l3 =>
              dsimp only at q
              cases e1 : itD d1 with
              | none => rw [e1] at q; exact q.elim
              | some l1 =>
                cases e2 : itD d2 with
                | none => rw [e1, e2] at q; exact q.elim
                | some l2 =>
                  rw [e1, e2] at q
                  dsimp only at q
                  obtain ⟨hz, q⟩ := Fin.ite q
                  obtain ⟨a1, dx1, gs1, v1, A1, k1, g1, lk1, rc1, _⟩ := fld_at S R h1
                  obtain ⟨a2, dx2, gs2, v2, A2, k2, g2, lk2, rc2, _⟩ := fld_at S R h2
                  obtain ⟨a3, dx3, b3, gs3, vs3, k3, g3, lk3, hb3', rp3, _⟩ := fld_lst (y := x) (H1 := H) S R h3
                  cases rc1 with
                  | val rp1 =>
                    cases rc2 with
                    | val rp2 =>
                      obtain ⟨z1, ev1, in1, nn1, at1⟩ := src_of rp1 e1
                      obtain ⟨z2, ev2, in2, nn2, at2⟩ := src_of rp2 e2
                      refine ⟨_, k1, a1, C, dx1, gs1, _, rfl, g1, S.c, hn1, lk1, _, k2, a2, C, dx2, gs2, _, rfl, g2, S.c, hn2, lk2, _, k3, a3, C, dx3, gs3, _, rfl, g3, S.c, hn3, lk3, ?_⟩
                      refine ⟨z1, z2, .lst b3 vs3, min (min l1.length l2.length) l3.length, fun i ws H' => ∃ y : Sx (pwOf X), Rel y r m s H' ∧ Reps y.F y.io ((List.zipWith (fun x (y : D × D) => D.tup [x, y.1, y.2]) l1 (l2.zip l3)).take i) ws ∧ StE x H y H', by rw [ev1, ev2]; rfl, in1 _ _ (.refl _) R.sub, in2 _ _ (.refl _) R.sub, hb3', ?_, ?_, ⟨x, R, .nil, .refl⟩, fun i ws H' T a b c ⟨y, Ry, rp, st⟩ hT ea eb ec => ?_, fun ws H' ⟨y, Ry, rp, st⟩ S' hS' => ?_⟩
                      · rw [nn1, nn2, rp3.length]
                        rfl
                      · have : LIM = sizeLine := lim_eq
                        exact Nat.le_trans (Nat.le_trans (Nat.min_le_left _ _) (Nat.min_le_left _ _)) (Nat.le_trans hz (by decide))
                      · obtain ⟨p1, ep1, r1⟩ := at1 i a ea
                        obtain ⟨p2, ep2, r2⟩ := at2 i b eb
                        obtain ⟨p3, ep3, r3⟩ := rp3.getV (show vs3[i]? = some c from ec)
                        have n := StE.new (o := .tup [a, b, c]) Ry hT
                        refine ⟨_, Ry.new hT, ?_, st.trans n⟩
                        have ez : (List.zipWith (fun x (y : D × D) => D.tup [x, y.1, y.2]) l1 (l2.zip l3))[i]? = some (.tup [p1, p2, p3]) := by
                          rw [List.getElem?_zipWith, ep1, (List.getElem?_zip_eq_some (z := (p2, p3))).mpr ⟨ep2, ep3⟩]
                        rw [List.take_add_one, ez]
                        refine (rp.mono n.st.F n.st.io).append (.cons (.tup upd_same ?_) .nil)
                        have f0 := st.st.F.trans n.st.F
                        have i0 := st.st.io.trans n.st.io
                        exact .cons (r1.mono f0 i0) (.cons (r2.mono f0 i0) (.cons (r3.mono f0 i0) .nil))
                      · have el : (List.zipWith (fun x (y : D × D) => D.tup [x, y.1, y.2]) l1 (l2.zip l3)).take (min (min l1.length l2.length) l3.length) = List.zipWith (fun x (y : D × D) => D.tup [x, y.1, y.2]) l1 (l2.zip l3) := by
                          refine List.take_of_length_le ?_
                          rw [List.length_zipWith, List.length_zip]
                          omega
                        rw [el] at rp
                        exact Fin.list Ry (Fin.shift st q) rp S' hS'
            | _ => exact q.elim
          | _ => cases c3 <;> exact q.elim
        | _ => cases c2 <;> cases c3 <;> exact q.elim
/-- list(o.f), f a list of the instance's own -/
def sListF (nm : Str) (i : Nat) (f : Str) : SE := fun r m => match fldAt nm i f r m with
  | some (_, .lst l) => .ok (.lst l) m
  | _ => .bad
theorem de_listF {f : Str} {o : Expr} (S : ClsS X.K X.mg nm C) (hno : NoAttr X.K C f) (hg : Gl X "list") (hm : X.mg "list" = none) (ho : PE X o (tVar i)) (hb : attributeBase o f X.env (eval o X.env) = eval o X.env := by rfl)
    (hs : starEach [.Attribute o f p2] X.env = [(false, eval (.Attribute o f p2) X.env)] := by rfl) (hpl : (backTo pos (starEach [] X.env)).any (·.1) = false := by rfl) :
    DE X w (.Call (.Name "list" p) [.Attribute o f p2] [] pos) (sListF nm i f) :=
  PE.imp (pe_callTy call_list_of hg hm PyProof.Rows.boot_list (pa_cons (pe_fld ho hb) pa_nil hs) (by decide) (by decide) hs hpl) fun s H Q ⟨x, r, m, R, q⟩ => by
  unfold sListF at q
  cases h : fldAt nm i f r m with
  | none => rw [h] at q; exact q.elim
  | some nc =>
    obtain ⟨n, c⟩ := nc
    rw [h] at q
    cases c with
    | lst l =>
      obtain ⟨a, dx, b, gs, vs, k1, g, lk, hb', rp, _⟩ := fld_lst (y := x) (H1 := H) S R h
      exact ⟨_, k1, a, C, dx, gs, _, rfl, g, S.c, hno, lk, b, vs, rfl, .inl (SqL.of hb'), Fin.list R q rp⟩
    | _ => exact q.elim
end
end Dl
set_option autoImplicit true
/-! The data layer: a list taken apart by a target; a method of what a call tells. -/
namespace Dl
open PySem PySem.Spec PyProof.Rows L2 TL
def gLstT (f : Gms) : Gm := fun d r => match d with
  | .lst l => f l r
  | _ => none
section
variable {X : Cx} {es : List Expr} {pos : Pos}
theorem dg_lst {f : Gms} {k n : Nat} {ws : List Nat} (hc : X.calm = true) (h : DGs X es ws f) (t : Takes f n) (hn : (assignEach es X.env).length = n := by rfl) (hst : (assignEach es X.env).findIdx? (·.1) = none := by rfl) : DG X (.Tuple es k pos) ws (gLstT f) :=
  PG.imp (pg_lst hc h hn hst) fun v s H Q ⟨x, r, m, d, R, p, q⟩ => by
    cases d with
    | lst l =>
      obtain ⟨a, vs, rfl, hp, rp⟩ := (Pk.of (H := H) p).lst R
      by_cases hl : l.length = n
      · exact ⟨a, vs, rfl, SqL.of hp, by rw [← rp.length]; exact hl, x, r, m, l, R, rp, q⟩
      · have q : match f l r with
          | some r' => ∀ s' (y : Sx (pwOf X)), Rel y r' m s' H → y.F = x.F → y.io = x.io → y.A2 = x.A2 → (∀ b ∈ y.A1, b ∈ x.A1) → Only ws s s' → Q s' H
          | none => False := q
        rw [t l r hl] at q
        exact q.elim
    | _ => exact q.elim
end
def sMethX (nm mm : Str) (φ : Fd) (f : SE) : SE := fun r m => bindR (f r m) fun d m1 => match d with
  | .obj k => (match m1[k]? with
    | some (.ins nm' fs) => if nm' = nm ∧ fs.lookup mm = none then callF 1 φ [.obj k] m1 else .bad
    | _ => .bad)
  | _ => .bad
section
variable {X : Cx} {w : Wi} {k : Nat} {nm mm : Str} {φ : Fd} {o : Expr} {fo : SE} {apos pos : Pos}
theorem de_methX {pl : Sem Bool} (M : MCal X.prog X.w X.K X.mg X.base k nm mm 1 w.tf φ) (hr : Room k X.A) (tk : L2.Takes X w.W) (ho : DE X w o fo)
    (ht : eval (.Call (.Attribute o mm apos) [] [] pos) X.env = (do
      let v0 ← eval o X.env
      standAt apos.atName
      let (f, first) ← holding [v0] (getMethod v0 mm pl)
      callWith pos f first (backTo pos (starEach [] X.env)) (backToKw pos (keywordEach [] X.env))) := by rfl) :
    DE X w (.Call (.Attribute o mm apos) [] [] pos) (sMethX nm mm φ fo) := by
  obtain ⟨f, fd, ps, C, F, S, hm, hb⟩ := M.ex
  refine PE.imp (pe_methE0 (pl := pl) ho S.c hm F hr hb (fun σ => passAt tk σ) ht) fun s H Q ⟨x, r, m, R, q⟩ => ?_
  refine rd_bind R q fun d m1 v y H1 R1 p1 st1 q1 => ?_
  cases d with
  | obj j =>
    cases p1 with
    | @obj _ a hio =>
      have q2 : Fin PV w y r s H1 Q (match m1[j]? with
        | some (.ins nm' fs) => if nm' = nm ∧ fs.lookup mm = none then callF 1 φ [.obj j] m1 else .bad
        | _ => .bad) := q1
      clear q1
      · split at q2
        · rename_i nm' fs hmj
          by_cases e : nm' = nm ∧ fs.lookup mm = none
          · rw [if_pos e] at q2
            obtain ⟨rfl, hf⟩ := e
            obtain ⟨a', dx, C', gs, A, A', e1, pm, e0, g1, g2, tf, _⟩ := R1.insAt hmj
            rw [hio] at e1
            cases e1
            have eC : C' = C := by
              have e0 : X.mg nm' = some (.ref C') := e0
              rw [S.g] at e0
              cases e0
              rfl
            subst eC
            refine ⟨a, dx, gs, rfl, g1, tf.none hf, ?_⟩
            obtain ⟨hl, q2⟩ := Fin.ite q2
            refine ⟨rfl, (y.w1 ([])), m1, [.obj j], R1.leave, .cons (.obj hio) .nil, ?_⟩
            exact Fin.out (w := w) (w' := w.tf.wi (WE w.W s)) rfl rfl R1 (fun _ _ _ h => h) q2
          · rw [if_neg e] at q2
            exact q2.elim
        · exact q2.elim
  | _ => exact q1.elim
end
end Dl
set_option autoImplicit true
/-! The data layer: x = l.pop(e); an own list made by list(range(n)). -/
namespace Dl
open PySem PySem.Spec PyProof.Rows L2 TL
theorem Reps.erase {F : Hp} {io : List Addr} : ∀ {ds : List D} {vs : List V} (i : Nat), Reps F io ds vs → Reps F io (ds.eraseIdx i) (vs.eraseIdx i)
  | _, _, _, .nil => .nil
  | _, _, 0, .cons _ t => t
  | _, _, i + 1, .cons q t => .cons q (Reps.erase i t)
/-- x = l.pop(e), l a slot's own list -/
def sPop (i j : Nat) (f : SE) : SS := fun r m => match r[j]? with
  | some (some (.lst l)) => bindS r (f r m) fun d m => match d with
    | .int k => (match ixN l.length k with
      | some q => (match l[q]? with
        | some y => if l.length ≤ 1000 then .nx ((r.set j (some (.lst (l.eraseIdx q)))).set i (some (.val y))) m else .bad
        | none => .bad)
      | none => .bad)
    | _ => .bad
  | _ => .bad
section
variable {X : Cx} {w : Wi} {e o : Expr} {fe : SE} {pos p1 p2 pos' : Pos}
theorem ds_pop {i j : Nat} {n : Str} (hN : X.N.Nodup) (hi : X.N[i]? = some n) (hx : Loc X.env.scope n) (ho : PE X o (tVar j)) (ha : DE X w e fe)
    (hs : swapsWith (.Call (.Attribute o "pop" p1) [e] [] p2) (some (.Name n pos')) pos.line X.env = pure false := by rfl) (hst : starEach [e] X.env = [(false, eval e X.env)] := by rfl)
    (hbase : attributeBase o "pop" X.env (eval o X.env) = eval o X.env := by rfl)
    (hfew : ((backTo p2 (starEach [e] X.env)).all (fun x => !x.1) && (backToKw p2 (keywordEach [] X.env)).all (fun x => x.1.isSome)
      && decide ([e].length + ([] : List Keyword).length + (if ([] : List Keyword).isEmpty then 0 else 1) < 30)) = true := by rfl)
    (hline : (p1.endLine == p2.line) = true := by rfl) (hpl : (backTo p2 (starEach [] X.env)).any (·.1) = false := by rfl) (hf : X.fn n = true ∨ X.env.scope.names.lookup n = some .local := by first | exact .inl rfl | exact .inr rfl | assumption) :
    DS X w (.Assign [.Name n pos'] (.Call (.Attribute o "pop" p1) [e] [] p2) pos) (sPop i j fe) :=
  PS.imp (ps_set hN hi hx (pe_bm PySem.F.plainAttrs_list PySem.F.slot_list_pop PySem.F.type_list_pop mt_popAt ho (pa_cons ha pa_nil hst) hbase hfew hline hst hpl) hs hf) fun E s H ⟨x, r, m, R, q⟩ => by
  unfold sPop at q
  split at q
  · rename_i l hl
    obtain ⟨a, vs, es, haA, ha, rp, _⟩ := R.own (l' := []) hl
    refine ⟨.ref a, es, .inl ⟨rfl, vs, SqL.of ha⟩, ?_⟩
    refine rd_bindS R q fun d m1 v y H1 R1 p1 st1 q1 => ?_
    cases d with
    | int k =>
      dsimp only at q1
      cases h1 : ixN l.length k with
      | none => rw [h1] at q1; exact q1.elim
      | some p =>
        rw [h1] at q1
        dsimp only at q1
        cases h2 : l[p]? with
        | none => rw [h2] at q1; exact q1.elim
        | some u =>
          rw [h2] at q1
          dsimp only at q1
          obtain ⟨hz, q1⟩ := FinS.ite q1
          cases p1
          obtain ⟨a', vs', es', haA', ha', rp', up⟩ := R1.own (l' := l.eraseIdx p) hl
          have e1 : a' = a := by
            rw [es] at es'
            cases es'
            rfl
          subst e1
          obtain ⟨v, ev, rv⟩ := rp'.get h2
          obtain ⟨z, R2, st2⟩ := up (vs'.eraseIdx p) (Reps.erase p rp')
          obtain ⟨hq, hlt, hb1, hb2⟩ := ixN_seq h1
          refine ⟨a', vs', k, p, v, rfl, rfl, ha', by omega, by omega, by rw [← rp'.length]; exact hq, ev, ?_⟩
          have rv2 : Rep z.F z.io u v := rv.mono st2.st.F st2.st.io
          obtain ⟨z2, R3, f1, f2, f3, f4⟩ := R2.put i (.val rv2) fun a ha => by cases ha
          exact q1 _ z2 _ R3 (st2.trans (.same f1 f2 f3 fun b hb => .inl ((f4 b hb).resolve_right (fun h => by cases h))))
    | _ => exact q1.elim
  · exact q.elim
/-- list(range(n)), the slot's own -/
def cLstRg (fa : SE) : SCe := fun r m => bindR (fa r m) fun d m => match d with
  | .int n => if 0 ≤ n ∧ n ≤ 1000 then .ok (.lst (rangeL 0 n.toNat)) m else .bad
  | _ => .bad
theorem dc_lstRg {a : Expr} {fa : SE} {p p2 pos2 : Pos} (hc : X.calm = true) (hg : Gl X "list") (hm : X.mg "list" = none) (hg2 : Gl X "range") (hm2 : X.mg "range" = none) (ha : DE X w a fa) (na : starEach [a] X.env = (false, eval a X.env) :: starEach [] X.env := by rfl)
    (na2 : starEach [.Call (.Name "range" p2) [a] [] pos2] X.env = (false, eval (.Call (.Name "range" p2) [a] [] pos2) X.env) :: starEach [] X.env := by rfl) : DC X w (.Call (.Name "list" p) [.Call (.Name "range" p2) [a] [] pos2] [] pos) (cLstRg fa) :=
  PE.imp (pe_listRg hc hg hm (prg_1 hg2 hm2 ha na) na2) fun s H Q ⟨x, r, m, R, q⟩ => by
  unfold cLstRg at q
  show rd PV w fa s H _
  refine ⟨x, r, m, R, ?_⟩
  cases ea : fa r m with
  | bad => rw [ea] at q; exact q
  | exc c v m1 => rw [ea] at q; exact q
  | ok d m1 =>
    rw [ea] at q
    intro v y H1 R1 p1 st1
    cases d with
    | int n =>
      cases p1
      have q : FinC w x r s H Q (if 0 ≤ n ∧ n ≤ 1000 then .ok (.lst (rangeL 0 n.toNat)) m1 else .bad) := q
      by_cases hz : 0 ≤ n ∧ n ≤ 1000
      · rw [if_pos hz] at q
        obtain ⟨k, rfl⟩ : ∃ k : Nat, n = k := ⟨n.toNat, by omega⟩
        refine ⟨k, rfl, RgOk.of_le (by omega) (by omega) (by omega) (by omega), fun t ht => ?_⟩
        have htF : y.F t = none := by
          cases e : y.F t with
          | none => rfl
          | some o => rw [R1.sub _ _ e] at ht; cases ht
        have R3 : Rel y r _ s (upd H1 t (.lst (rgV 0 k))) := ⟨fun b o e => by rw [upd_ne (ne_of_none (R1.sub _ _ e) ht)]; exact R1.sub _ _ e, R1.vars.mono (.refl _) (.refl _) fun b _ o e => by rw [upd_ne (ne_of_none e ht)]; exact e,
          R1.sto.mono (.refl _) (.refl _) fun b _ o e => by rw [upd_ne (ne_of_none e ht)]; exact e, R1.nd, R1.nF⟩
        refine q (.ref t) y (upd H1 t (.lst (rgV 0 k))) [t] R3 (.lst upd_same (by rw [Int.toNat_natCast]; exact reps_rg k)) (fun b hb => ?_) (st1.trans ⟨⟨.refl _, .refl _, fun b o e _ => by rw [upd_ne (ne_of_none e ht)]; exact e, fun b e => ?_, fun b h1 h2 => absurd h1 h2, fun b h => .inl h⟩, rfl⟩)
        · have e := List.mem_singleton.mp hb
          subst e
          exact ⟨htF, fun hm => R1.there b hm ht, st1.st.there b ht⟩
        · by_cases hb : b = t
          · subst hb; exact ht
          · rw [upd_ne hb] at e
            exact e
      · rw [if_neg hz] at q
        exact q.elim
    | _ => exact q.elim
end
end Dl
set_option autoImplicit true
/-! The data layer: a, *b = e. -/
namespace Dl
open PySem PySem.Spec PyProof.Rows L2 TL
theorem walks_from1 {prog : Program} {w : World} {A : Around} {I : Addr} {fp wr : List Addr} {n : Nat} {P : Nat → Value → Prop} {St : Nat → Heap → Prop} (W : Walks prog w A I fp wr (n + 1) P St) : Walks prog w A I fp wr n (fun i => P (i + 1)) (fun i => St (i + 1)) where
  sub := W.sub
  frame := fun i h h' st k => W.frame (i + 1) h h' st k
  item := fun i s Q E hi st hQ => W.item (i + 1) s Q E (by omega) st hQ
  done := fun s Q E st hQ => W.done s Q E st hQ
  self := fun i s Q E st hQ => W.self (i + 1) s Q E st hQ
section
variable {prog : Program} {w : World} {A : Around} {E : Value → Shared → Prop} {s : Shared}
theorem unpackStar {t : Addr} {x : Value} {rest : List Value} {Q : List Value → Shared → Prop} (hh : A.handled = none) (ht : IsTup s.heap t (x :: rest).toArray) (hz : rest.length ≤ sizeLine)
    (hQ : ∀ (h' : Heap) (tk : Nat), (∀ b o, s.heap.get? b = some o → h'.get? b = some o) → Q [x, .ref h'.objs.size] { s with heap := h'.push { cls := .type "list", data := .seq rest.toArray }, toks := tk }) :
    wpAny (model prog w) A (unpackItems (.ref t) 2 (some 1)) Q E s := by
  have hlt : t ≠ s.heap.objs.size := by obtain ⟨o, ho, _⟩ := ht; exact Nat.ne_of_lt (Heap.lt_size ho)
  unfold unpackItems
  refine wpAny_bind ?_
  unfold notIterableAtAll
  refine wpAny_bind (wpAny_specialOf ht.typeIs slot_tuple_iter.lookup ?_)
  refine wpAny_pure ?_
  simp only [Bool.false_eq_true, if_false]
  refine wpAny_bind (wpAny_holding (iter_tuple ht ?_))
  refine wpAny_bind (wpAny_holding (draw_tuple hlt 1 0 _ _ ⟨_, Heap.get?_push_size _ rfl, rfl, rfl⟩ (ht.push _) (by simp) fun h₁ hit₁ hs₁ => ?_))
  have hall : List.take 1 (List.drop 0 (x :: rest).toArray.toList) = [x] := by simp
  rw [hall]
  rw [if_neg (by simp)]
  have ht₁ : IsTup h₁ t (x :: rest).toArray := (ht.push _).extBut hs₁.extBut hlt
  have hsz₁ : h₁.objs.size = s.heap.objs.size + 1 := by rw [hs₁.1, Heap.size_push]
  have hn : (x :: rest).toArray.size = rest.length + 1 := by simp
  have W0 := Walks.tuple (prog := prog) (w := w) (A := A.in1) hh s.heap.objs.size t hlt (x :: rest).toArray
  rw [hn] at W0
  have W := (walks_from1 W0).toS
  refine wpAny_bind (wpAny_holding (wpAny_collect_iter (s := { s with heap := h₁ }) (.inr (.inr (.inr rfl))) W (fun i s' st => ?_) ⟨hit₁, ht₁⟩ (fun b hb => ?_) (by simp) (fun s' acc hm hacc => ?_) hz))
  · obtain ⟨o, ho, hc, _⟩ := st.1
    exact ⟨o, ho, hc⟩
  · show b < h₁.objs.size
    rw [hsz₁]
    simp only [List.mem_cons, List.not_mem_nil, or_false] at hb
    rcases hb with rfl | rfl
    · exact Nat.lt_succ_self _
    · obtain ⟨o, ho, _⟩ := ht
      exact Nat.lt_succ_of_lt (Heap.lt_size ho)
  · have el : acc.toList = rest := by
      refine List.ext_getElem? fun i => ?_
      by_cases hi : i < acc.size
      · have e1 : acc[i]? = some acc[i] := by simp [hi]
        have e2 := hacc.2 i _ e1
        have e3 : (x :: rest).toArray[i + 1]? = some acc[i] := e2
        have e4 : rest[i]? = some acc[i] := by simpa using e3
        rw [e4, Array.getElem?_toList, e1]
      · have e1 : acc.toList[i]? = none := by simp; omega
        have e2 : rest[i]? = none := by
          have := hacc.1
          simp
          omega
        rw [e1, e2]
    rw [el]
    have e0 : ¬ rest.length < 2 - 1 - 1 := by omega
    rw [if_neg e0]
    have e5 : rest.length - (2 - 1 - 1) = rest.length := by omega
    rw [e5, List.take_length, List.drop_length]
    refine wpAny_bind (wpAny_newList ?_ (by simpa using hz))
    refine wpAny_pure ?_
    have hmk : ∀ b o, s.heap.get? b = some o → s'.heap.get? b = some o := fun b o e => hm.heap b o (fun hb => by
      have e1 := List.mem_singleton.mp hb
      have e2 := Heap.lt_size e
      rw [e1] at e2
      exact Nat.lt_irrefl _ e2) (hs₁.extBut b o (fun e1 => by
        have e2 := Heap.lt_size e
        rw [e1] at e2
        exact Nat.lt_irrefl _ e2) (Heap.get?_push_of_some _ e))
    rw [Moved.eq_with hm]
    exact hQ _ _ hmk
end
/-- the first of a tuple, and a list of the rest -/
def gStarV (K : PySem.W.Frag) (t : TGs) : TG := fun v σ H Q => ∃ p x xs, v = .ref p ∧ SqT K H p (x :: xs) ∧ ∀ L, H L = none → t [x, .ref L] σ (upd H L (.lst xs)) Q
section
variable {X : Cx} {a b : Expr} {p pos : Pos}
theorem pg_star {t : TGs} {k : Nat} (hc : X.calm = true) (h : PGs X [a, b] t) (hm : (assignEach [a, .Starred b p] X.env).map (·.2) = (assignEach [a, b] X.env).map (·.2) := by rfl) (hn : (assignEach [a, .Starred b p] X.env).length = 2 := by rfl) (hst : (assignEach [a, .Starred b p] X.env).findIdx? (·.1) = some 1 := by rfl) : PG X (.Tuple [a, .Starred b p] k pos) (gStarV X.K t) := by
  refine ⟨fun pins s σ H v u Q I r hw => ?_⟩
  obtain ⟨q, x, xs, e1, hq, hw⟩ := hw
  subst e1
  cases r
  obtain ⟨its, rv, ht, hz⟩ := I.tuple hq
  cases rv with
  | @cons _ u0 _ us r0 rs =>
    rw [PyProof.Rows.assign_Tuple]
    refine wpAny_bind (wpAny_standAt ?_)
    unfold unpack
    rw [hn, hst]
    have hz2 : us.length ≤ sizeLine := by
      rw [← rs.length]
      exact Nat.le_trans (Nat.le_succ _) hz
    refine wpAny_bind (wpAny_holding (unpackStar (I.ok.hd hc) ht hz2 fun h' tk hk => ?_))
    have I1 : Inv X pins σ H { s with heap := h', toks := tk } := I.kept hk
    have I2 : Inv X pins σ (upd H h'.objs.size (.lst xs)) { s with heap := h'.push { cls := .type "list", data := .seq us.toArray }, toks := tk } :=
      I1.laid (t' := tk) (fun b o e => Heap.get?_push_of_some _ e) (Nat.le_refl _) (show ObjOk X.prog X.w _ _ _ (.lst xs) from ⟨by rw [rs.length]; exact hz2, us, 0, rs, Heap.get?_push_size _ rfl⟩)
    rw [hm]
    exact h.run pins _ σ _ [x, .ref h'.objs.size] [u0, .ref h'.objs.size] Q I2 (.cons r0 (.cons rfl .nil)) (hw _ (I1.hok.fresh (Nat.le_refl _)))
/-- a, *b = e -/
def sStar (i j : Nat) (fe : SE) : SS := fun r m => bindS r (fe r m) fun d m => match d with
  | .tup (x :: l) => .nx ((r.set i (some (.val x))).set j (some (.val (.lst l)))) m
  | _ => .bad
theorem ds_star {w : Wi} {i j : Nat} {na nb : Str} {e : Expr} {fe : SE} {pa pb pt : Pos} {kt : Nat} (hc : X.calm = true) (hN : X.N.Nodup) (hi : X.N[i]? = some na) (hx : Loc X.env.scope na) (hj : X.N[j]? = some nb) (hy : Loc X.env.scope nb) (he : DE X w e fe)
    (hs : swapsWithSole [.Tuple [.Name na pa, .Starred (.Name nb pb) p] kt pt] e pos.line X.env = pure false := by rfl) (hw : swappedStores [.Tuple [.Name na pa, .Starred (.Name nb pb) p] kt pt] e X.env = pure none := by rfl)
    (hk : (assignEach [.Tuple [.Name na pa, .Starred (.Name nb pb) p] kt pt] X.env).map (·.2) = [assign (.Tuple [.Name na pa, .Starred (.Name nb pb) p] kt pt) X.env] := by rfl)
    (ha : (assignEach [.Name na pa, .Name nb pb] X.env).map (·.2) = assign (.Name na pa) X.env :: (assignEach [.Name nb pb] X.env).map (·.2) := by rfl)
    (hb : (assignEach [.Name nb pb] X.env).map (·.2) = assign (.Name nb pb) X.env :: (assignEach [] X.env).map (·.2) := by rfl)
    (hm : (assignEach [.Name na pa, .Starred (.Name nb pb) p] X.env).map (·.2) = (assignEach [.Name na pa, .Name nb pb] X.env).map (·.2) := by rfl) (hn : (assignEach [.Name na pa, .Starred (.Name nb pb) p] X.env).length = 2 := by rfl) (hst : (assignEach [.Name na pa, .Starred (.Name nb pb) p] X.env).findIdx? (·.1) = some 1 := by rfl)
    (hf : X.fn na = true ∨ X.env.scope.names.lookup na = some .local := by first | exact .inl rfl | exact .inr rfl | assumption) (hg : X.fn nb = true ∨ X.env.scope.names.lookup nb = some .local := by first | exact .inl rfl | exact .inr rfl | assumption) :
    DS X w (.Assign [.Tuple [.Name na pa, .Starred (.Name nb pb) p] kt pt] e pos) (sStar i j fe) :=
  PS.imp (ps_asg he (pg_star hc (pgs_cons (pg_name hN hi hx hf) (pgs_cons (pg_name hN hj hy hg) pgs_nil hb) ha) hm hn hst) hs hw hk) fun E s H ⟨x, r, m, R, q⟩ => by
  refine rd_bindS R q fun d m1 v y H1 R1 p1 st1 q1 => ?_
  cases d with
  | tup ds =>
    cases ds with
    | nil => exact q1.elim
    | cons d0 dl =>
      have q1 : FinS w y H1 E (.nx ((r.set i (some (.val d0))).set j (some (.val (.lst dl)))) m1) := q1
      cases p1 with
      | @tup a _ _ hF rp =>
        cases rp with
        | @cons _ v0 _ vs r0 rs =>
          refine ⟨a, v0, vs, rfl, SqT.of (R1.sub _ _ hF), fun L hL => ?_⟩
          have n := StE.new (o := .lst vs) R1 hL
          have R2 := R1.new (o := .lst vs) hL
          obtain ⟨z, R3, f1, f2, f3, f4⟩ := R2.putV i (r0.mono n.st.F n.st.io)
          have rl : Rep z.F z.io (.lst dl) (.ref L) := by
            rw [f1, f2]
            exact .lst upd_same (rs.mono n.st.F n.st.io)
          obtain ⟨z2, R4, g1, g2, g3, g4⟩ := R3.putV j rl
          refine ⟨_, _, rfl, ⟨_, _, rfl, rfl, ?_⟩⟩
          refine q1 _ z2 _ R4 ((n.toS.trans (.same f1 f2 f3 fun b hb => .inl (f4 b hb))).trans (.same g1 g2 g3 fun b hb => .inl (g4 b hb)))
  | _ => exact q1.elim
end
end Dl
set_option autoImplicit true
/-! The data layer: a try whose suite tells no refusal; a table of the module's own. -/
namespace Dl
open PySem PySem.Spec PyProof.Rows L2 TL
def sTry0 (b : SS) : SS := fun r m => match b r m with
  | .exc _ _ _ _ => .bad
  | o => o
theorem ds_try0 {X : Cx} {w : Wi} {body : List Stmt} {hs : List ExceptHandler} {h0 : ExceptHandler} {b : SS} {pos : Pos} (hb : DSs X.nox w.no body b) : DS X w (.Try body (h0 :: hs) [] [] pos) (sTry0 b) :=
  PS.imp (ps_try_thru0 hb) fun E s H ⟨x, r, m, R, q⟩ => by
  refine ⟨x, r, m, R, ?_⟩
  unfold sTry0 at q
  cases e : b r m with
  | nx r1 m1 => rw [e] at q; exact q
  | ct r1 m1 => rw [e] at q; exact q
  | bk r1 m1 => rw [e] at q; exact q
  | rt d m1 => rw [e] at q; exact q
  | exc c v r1 m1 => rw [e] at q; exact q.elim
  | bad => rw [e] at q; exact q
/-- a written dict of texts and ints -/
structure KTab (K : PySem.W.Frag) (mg : Str → Option Value) (w : World) (nm : Str) (l : List (List Nat × Int)) : Prop where
  ex : ∃ d es n, mg nm = some (.ref d) ∧ KDict K w d es n ∧ ∀ z i, l.lookup z = some i → ∃ t, PySem.W.nsIn K d ⟨z.toArray⟩ = some (some (.int i t))
def sTabGet (l : List (List Nat × Int)) (fe : SE) : SE := fun r m => bindR (fe r m) fun d m => match d with
  | .str z => (match l.lookup z with
    | some i => .ok (.int i) m
    | none => .bad)
  | _ => .bad
def tTabGet (K : PySem.W.Frag) (d : Addr) (ty tx : TE) : TE := fun σ H Q => ty σ H fun y H2 => tx σ H2 fun z H3 => ∃ (k : Str) (i : Int), y = .str k ∧ (∃ t, PySem.W.nsIn K d k = some (some (.int i t))) ∧ Q (.int i) H3
section
variable {X : Cx} {w : Wi} {o e f : Expr} {apos cpos p : Pos} {td ty tx : TE} {es : Array DictEntry} {n : Nat} {d : Addr} {nm : Str}
theorem pe_tabget (hg : Gl X nm) (hm : X.mg nm = some (.ref d)) (D : KDict X.K X.w d es n) (he : PE X e ty) (hf : PE X f tx) (m : M2 X (.Name nm p) "get" apos e f cpos) (hdb : (nm == ("__debug__" : Str)) = false := by decide) : PE X (.Call (.Attribute (.Name nm p) "get" apos) [e, f] [] cpos) (tTabGet X.K d ty tx) := by
  refine ⟨fun pins s σ H Q I h => ?_⟩
  have hdc : ∀ s' : Shared, X.K.In s'.heap → s'.TypeIs (.ref d) "dict" ∧ (∀ b, Value.ref d = .ref b → ∃ ob, s'.heap.get? b = some ob ∧ ob.dict = none) := fun s' kin => by
    have dd := PySem.W.mapOf_K (prog := X.prog) (w := X.w) kin D.at_ D.lit
    refine ⟨dd.typeIs, fun b q => ?_⟩
    cases q
    exact ⟨_, kin _ _ D.at_, rfl⟩
  refine wpAny_Call_method m.base m.few m.line PySem.F.plainAttrs_dict PySem.F.slot_dict_get PySem.F.type_dict_get (ld_glob I hg hm ?_ hdb)
  obtain ⟨t1, t2⟩ := hdc s I.kIn
  refine ⟨t1, t2, ?_⟩
  rw [m.trees]
  refine Calls.callWith_builtin rfl (Calls.evalArgs_plain (Calls.spliced_cons (thn (he.run pins s σ H _ I h) fun iv s2 ⟨y, H2, I2, ry, q2⟩ =>
    Calls.spliced_cons (thn (hf.run pins s2 σ H2 _ I2 q2) fun fv s3 ⟨z, H3, I3, rz, k, i, ey, ⟨t, ek⟩, q3⟩ => Calls.spliced_nil ?_))))
  subst ey
  obtain ⟨tk, rfl⟩ := ry
  refine call_meetsIn PySem.F.slot_dict_get (hdc s3 I3.kIn).1 PySem.F.entry_dict_get (PySem.F.args_dict_get_3 _ _ _) (meets_dict_get_default (PySem.strKind X.prog X.w) d (PySem.strKind_is X.prog X.w k tk) D.low fv) ⟨_, PySem.W.mapOf_K (prog := X.prog) I3.kIn D.at_ D.lit, ?_⟩
  rw [PySem.W.find_K D.at_ ek]
  exact ⟨.int i, H3, I3.tok _, ⟨t, rfl⟩, q3⟩
theorem de_tabGet {l : List (List Nat × Int)} {fe : SE} (T : KTab X.K X.mg X.w nm l) (hg : Gl X nm) (he : DE X w e fe) {i : Int} {j : Nat} {ip : Pos} (hb : attributeBase (.Name nm p) "get" X.env (eval (.Name nm p) X.env) = eval (.Name nm p) X.env := by rfl)
    (hfew : ((backTo cpos (starEach [e, .Constant (.int i) j ip] X.env)).all (fun x => !x.1) && (backToKw cpos (keywordEach [] X.env)).all (fun x => x.1.isSome)
      && decide (([e, .Constant (.int i) j ip] : List Expr).length + ([] : List Keyword).length + (if ([] : List Keyword).isEmpty then 0 else 1) < 30)) = true := by rfl) (hline : (apos.endLine == cpos.line) = true := by rfl)
    (htr : backTo cpos (starEach [e, .Constant (.int i) j ip] X.env) = [(false, eval e X.env), (false, eval (.Constant (.int i) j ip) X.env)] := by rfl) (hdb : (nm == ("__debug__" : Str)) = false := by decide) :
    DE X w (.Call (.Attribute (.Name nm p) "get" apos) [e, .Constant (.int i) j ip] [] cpos) (sTabGet l fe) := by
  obtain ⟨d, es, n, hm, D, hl⟩ := T.ex
  refine PE.imp (pe_tabget hg hm D he pe_int ⟨hb, hfew, hline, htr⟩ hdb) fun s H Q ⟨x, r, m, R, q⟩ => ?_
  refine rd_bind R q fun d m1 v y H1 R1 p1 st1 q1 => ?_
  cases d with
  | str z =>
    dsimp only at q1
    cases h : l.lookup z with
    | none => rw [h] at q1; exact q1.elim
    | some i' =>
      rw [h] at q1
      have ev : v = .str ⟨z.toArray⟩ := by
        cases p1
        rfl
      exact ⟨_, i', ev, hl z i' h, Fin.here R1 q1 (.int _)⟩
  | _ => exact q1.elim
end
end Dl
namespace Dl
open PySem PySem.Spec PyProof.Rows L2 TL
open He (dicW keysIn dicW_ok)
def tabOk (K : PySem.W.Frag) (d : Addr) (l : List (List Nat × Int)) : Bool := l.all fun p => match PySem.W.nsIn K d ⟨p.1.toArray⟩ with
  | some (some (.int i _)) => i == p.2
  | _ => false
theorem KTab.of {K : PySem.W.Frag} {mg : Str → Option Value} {w : World} {nm : Str} {l : List (List Nat × Int)} {d : Addr} {ks : List Str} (hm : mg nm = some (.ref d)) (hd : dicW K d = some (keysIn w.params ks)) (hl : tabOk K d l = true) : KTab K mg w nm l := by
  obtain ⟨es, n, D⟩ := dicW_ok (w := w) hd
  refine ⟨d, es, n, hm, D, fun z i h => ?_⟩
  have hmem : (z, i) ∈ l := by
    clear hl
    induction l with
    | nil => cases h
    | cons p l ih =>
      obtain ⟨a, b⟩ := p
      by_cases e : z = a
      · subst e
        simp [List.lookup] at h
        subst h
        simp
      · have e2 : (z == a) = false := by simpa using e
        simp [List.lookup, e2] at h
        exact List.mem_cons_of_mem _ (ih h)
  have h2 := List.all_eq_true.mp hl _ hmem
  dsimp only at h2
  split at h2
  · rename_i j t e
    have e3 : j = i := by simpa using h2
    subst e3
    exact ⟨t, e⟩
  · cases h2
end Dl
set_option autoImplicit true
/-! The data layer: only a further def makes lambdas: its table is the store's second object. -/
namespace Dl
open PySem PySem.Spec PyProof.Rows L2 TL
def LawOkD (N : List Str) (seed : Int) (g : Lam2C → SS) : Prop := LawOkT N seed fun C => g ⟨C.P, C.q⟩
section
variable {P : Program} {w : World} {K : PySem.W.Frag} {mg : Str → Option Value} {base : Heap} {k : Nat} {st : Stmt} {N : List Str}
theorem law_fnD {f p2 : Addr} {q2 : Str} {fd : FuncData} {lx : Str} {seed : Int} {g : Lam2C → SS} {t : Tf} (F : Fun K "law" "law" st f fd) (S : FnScope N [lx] (defScope st)) (h : LawOkD N seed g) (h2 : 2 ≤ N.length)
    (hbody : ∀ (cdv : Value) (A : Around) (outer : List PySem.Env) (s : Shared) (H : Hp) (E : XK), Room k (A.deeper (envOfC "law" (defScope st) s.heap.objs.size f cdv)) → PSs (cxOf (L2.CX P w) P w K mg base N "law" (defScope st) f cdv A outer s H E) (defBody st) (tSeq (tAsg (tCallS (spMix K) (WE (t.wi E).W) (tCons (tVar 0) (tCons (tC (.int seed)) tNil))) (L2.gName 1)) (rdS (P, w, mg) (t.wi E) (g ⟨p2, q2⟩)))) :
    FnOk P w K mg base (L2.CX P w) (k + 1) f fd [lx] (spLawT K p2) :=
  F.okX S (fun vs H Q E h => by
    obtain ⟨a, ns, rfl, _⟩ := h
    rfl) fun cdv A outer s H vs Q E hr hs => ⟨_, hbody cdv A outer s H E hr, law_startT h h2 ⟨fun _ => default, p2, q2⟩ hs⟩
end
end Dl
set_option autoImplicit true
/-! The data layer: a comprehension over a slot's own list. -/
namespace Dl
open PySem PySem.Spec PyProof.Rows L2 TL
structure ServesK (KK : Hp → Prop) (F : Hp) (io : List Addr) (J : It) (ds : List D) : Prop where
  go : ∀ F' H i, Sub F F' → Sub F' H → KK H → i < ds.length → J.go i H
  stop : ∀ F' H, Sub F F' → Sub F' H → KK H → J.stop ds.length H
  yld : ∀ F' io' H i d v H', Sub F F' → Pfx io io' → Sub F' H → KK H → ds[i]? = some d → J.yld i H v H' → Yl F' io' H d v H'
def PIo {pw : PWd} : PP pw (List D) It := fun x H ds J => ∃ KK : Hp → Prop, ServesK KK x.F x.io J ds ∧ ∀ y H', StE x H y H' → KK H'
abbrev DIo (X : Cx) (w : Wi) (tg iter : Expr) (f : SL) : Prop := PI X tg iter (rd (PIo (pw := pwOf X)) w f)
section
variable {X : Cx} {w : Wi} {c elt tg iter : Expr} {ifs : List Expr} {scope : Scope} {own : List (Str × Nat)} {pos spos : Pos} {i : SL} {g : Gm} {t : SB} {f : SE} {ws vs : List Nat} {pos : Pos}
theorem lc_rdO (hw : ∀ i ∈ ws, i ∈ vs) (s : L2.St) (H : Hp) (Q : VK) (q : rd (PV (pw := pw)) w (sLc vs i g t f) s H Q) : tLc (rd (PIo (pw := pw)) w i) (rdG pw ws g) (rd (PB (pw := pw)) w.no t) (rd (PV (pw := pw)) w.no f) vs s H Q := by
  obtain ⟨x, r, m, R, q⟩ := q
  refine rd_bind R q fun ds m1 J y1 H1 R1 sv st1 q1 => ?_
  obtain ⟨⟨hz, hb⟩, q1⟩ := Fin.ite q1
  obtain ⟨KK, sv, hK⟩ := sv
  intro D hD
  -- the state before turn i
  refine ⟨fun i n H => n = ds.length - i ∧ i ≤ ds.length ∧ ∃ y m acc us, Rel y (wipeE r vs) m (wipe s vs) H ∧ Mk D y H acc us ∧ acc.length ≤ i ∧ StE y1 H1 y H ∧ Fin PV w y1 r s H1 Q (bindR (lcL g t f (wipeE r vs) (ds.drop i) m) fun l m => .ok (.lst (acc ++ l)) m), ⟨ds.length, by simp, Nat.zero_le _, y1, m1, [], [], ?_, ⟨upd_same, .nil, fun z => R1.there D z hD, ?_⟩, Nat.zero_le _, ?_, by simpa using q1⟩, ?_⟩
  · refine ⟨fun b o e => ?_, (R1.vars.wipe vs hb).mono (.refl _) (.refl _) fun b hb o e => ?_, R1.sto.mono (.refl _) (.refl _) fun b hb o e => ?_, R1.nd, R1.nF⟩
    · have e := R1.sub _ _ e
      rw [upd_ne (ne_of_none e hD)]
      exact e
    · rw [upd_ne (ne_of_none e hD)]
      exact e
    · rw [upd_ne (ne_of_none e hD)]
      exact e
  · cases e : y1.F D with
    | none => rfl
    | some o => rw [R1.sub _ _ e] at hD; cases hD
  · refine ⟨⟨.refl _, .refl _, fun b o e _ => ?_, fun b e => ?_, fun b h1 h2 => absurd h1 h2, fun b h => .inl h⟩, rfl⟩
    · rw [upd_ne (ne_of_none e hD)]
      exact e
    · by_cases hbD : b = D
      · subst hbD; exact hD
      · rw [upd_ne hbD] at e
        exact e
  · rintro i n H ⟨rfl, hi, y, m, acc, us, R, mk, hacc, st, q⟩
    by_cases hlt : i < ds.length
    · refine .inr ⟨sv.go y.F H i st.st.F R.sub (hK y H st) hlt, fun H' => ∃ y m acc us, Rel y (wipeE r vs) m (wipe s vs) H' ∧ Mk D y H' acc us ∧ acc.length ≤ i + 1 ∧ StE y1 H1 y H' ∧ Fin PV w y1 r s H1 Q (bindR (lcL g t f (wipeE r vs) (ds.drop (i + 1)) m) fun l m => .ok (.lst (acc ++ l)) m), fun H' h' => ⟨ds.length - (i + 1), by omega, rfl, hlt, h'⟩, fun v H' hy => ?_⟩
      obtain ⟨z, Rz, pz, stz⟩ := R.yl (sv.yld y.F y.io H i ds[i] v H' st.st.F st.st.io R.sub (hK y H st) (List.getElem?_eq_getElem hlt) hy)
      have mkz := mk.stay stz
      have hd : ds.drop i = ds[i] :: ds.drop (i + 1) := List.drop_eq_getElem_cons hlt
      rw [hd] at q
      have q : Fin PV w y1 r s H1 Q (bindR (match g ds[i] (wipeE r vs) with
        | none => .bad
        | some r' => bindN (t r' m) fun b m => if b = true then bindN (f r' m) fun y m => bindN (lcL g t f (wipeE r vs) (ds.drop (i + 1)) m) fun ys m => .ok (y :: ys) m else lcL g t f (wipeE r vs) (ds.drop (i + 1)) m) fun l m => .ok (.lst (acc ++ l)) m) := q
      refine ⟨z, wipeE r vs, m, ds[i], Rz, pz, ?_⟩
      cases eg : g ds[i] (wipeE r vs) with
      | none => rw [eg] at q; exact q.elim
      | some r' =>
        rw [eg] at q
        intro s' z' R' e1 e2 e3 e4 o'
        refine ⟨(o'.wipe hw).trans (wipe_wipe vs), z', r', m, R', ?_⟩
        have q : Fin PV w y1 r s H1 Q (bindR (bindN (t r' m) fun b m => if b = true then bindN (f r' m) fun y m => bindN (lcL g t f (wipeE r vs) (ds.drop (i + 1)) m) fun ys m => .ok (y :: ys) m else lcL g t f (wipeE r vs) (ds.drop (i + 1)) m) fun l m => .ok (.lst (acc ++ l)) m) := q
        have st' : Stp y1.A2 y1 H1 z' H' := Stp.trans (Stp.trans st.st stz.st) ⟨by rw [e1]; exact .refl _, by rw [e2]; exact .refl _, fun _ _ h _ => h, fun _ h => h, fun b h1 h2 => by rw [e1] at h2; exact absurd h1 h2, fun b h => .inl (by rw [← e3]; exact h)⟩
        have sub1 : ∀ b ∈ z'.A1, b ∈ z.A1 := e4
        have mk' : Mk D z' H' acc us := ⟨mkz.at', by rw [e1, e2]; exact mkz.rep, fun hm => mkz.nA (by
          rcases List.mem_append.mp hm with hm | hm
          · exact List.mem_append_left _ (e4 _ hm)
          · rw [e3] at hm; exact List.mem_append_right _ hm), by rw [e1]; exact mkz.nF⟩
        have hR1 : Rel y1 (wipeE r vs) m1 (wipe s vs) H1 := ⟨R1.sub, R1.vars.wipe vs hb, R1.sto, R1.nd, R1.nF⟩
        obtain ⟨b, m2, et, q⟩ := Fin.okN (Fin.bindN q)
        rw [et]
        intro b' u H4 R4 p4 st4
        cases p4
        have mk4 := mk'.stay st4
        have st4' := Stp.trans st' st4.st
        have back : ∀ {u2 : Sx pw} {H5 : Hp} {m5 : Sto} {r5 : Env} {s5 : L2.St} {acc5 : List Dl.D} {us5 : List V}, Rel u2 r5 m5 s5 H5 → Stp y1.A2 y1 H1 u2 H5 → Mk D u2 H5 acc5 us5 → Rel (u2.w1 (y1.A1)) (wipeE r vs) m5 (wipe s vs) H5 ∧ StE y1 H1 (u2.w1 (y1.A1)) H5 ∧ Mk D (u2.w1 (y1.A1)) H5 acc5 us5 := fun {u2 H5 m5 r5 s5 acc5 us5} R5 st5 mk5 => by
          obtain ⟨R6, st6⟩ := hR1.back st5 R5
          refine ⟨R6, st6, ⟨mk5.at', mk5.rep, fun hm => ?_, mk5.nF⟩⟩
          rcases List.mem_append.mp hm with hm | hm
          · exact R1.there D (List.mem_append_left _ hm) hD
          · exact mk5.nA (List.mem_append_right _ hm)
        cases b with
        | false =>
          rw [if_neg Bool.false_ne_true] at q ⊢
          obtain ⟨R6, st6, mk6⟩ := back R4 st4' mk4
          exact ⟨_, m2, acc, us, R6, mk6, by omega, st6, q⟩
        | true =>
          rw [if_pos rfl] at q ⊢
          obtain ⟨d, m3, ef, q⟩ := Fin.okN (Fin.bindN q)
          obtain ⟨ys, m4, el, q⟩ := Fin.okN (Fin.bindN q)
          refine ⟨u, r', m2, R4, ?_⟩
          rw [ef]
          intro v5 o H5 R5 p5 st5
          have mk5 := mk4.stay st5
          have st5' := Stp.trans st4' st5.st
          obtain ⟨R6, st6, mk6⟩ := back R5 st5' mk5
          obtain ⟨mk7, R7, st7⟩ := mk6.put R6 p5
          refine ⟨us, mk5.at', ?_, _, m3, acc ++ [d], us ++ [v5], R7, mk7, by simp; omega, st7 hD st6, ?_⟩
          · have := mk5.rep.length
            rw [← lim_eq]
            omega
          · rw [el]
            have q : Fin PV w y1 r s H1 Q (.ok (.lst (acc ++ (d :: ys))) m4) := q
            have e : acc ++ [d] ++ ys = acc ++ (d :: ys) := by simp
            show Fin PV w y1 r s H1 Q (.ok (.lst (acc ++ [d] ++ ys)) m4)
            rw [e]
            exact q
    · have e : i = ds.length := by omega
      subst e
      refine .inl ⟨sv.stop y.F H st.st.F R.sub (hK y H st), ?_⟩
      rw [List.drop_length] at q
      have q : Fin PV w y1 r s H1 Q (.ok (.lst (acc ++ [])) m) := q
      rw [List.append_nil] at q
      have hs : Sub y.F (upd y.F D (.lst us)) := fun b o e => by rw [upd_ne (ne_of_none e mk.nF)]; exact e
      refine q (.ref D) (y.wF (upd y.F D (.lst us))) H ⟨fun b o e => ?_, ?_, R.sto.mono hs (.refl _) fun b hb o e => e, R.nd, fun b hb => ?_⟩ (.lst upd_same (mk.rep.mono hs (.refl _))) ⟨⟨st.st.F.trans hs, st.st.io, st.st.keep, st.st.there, fun b h1 h2 => ?_, st.st.newA⟩, st.a1⟩
      · have e : upd y.F D (.lst us) b = some o := e
        by_cases hbD : b = D
        · subst hbD
          rw [upd_same] at e
          cases e
          exact mk.at'
        · rw [upd_ne hbD] at e
          exact R.sub _ _ e
      · show Vars pw _ _ _ _ _ y.A1
        rw [st.a1]
        exact R1.vars.mono (st.st.F.trans hs) st.st.io fun b hb o e => st.st.keep b o e fun z => (List.nodup_append.mp R1.nd).2.2 b hb b z rfl
      · show upd y.F D (.lst us) b = none
        rw [upd_ne (fun e => mk.nA (by rw [← e]; exact hb))]
        exact R.nF b hb
      · have h2 : upd y.F D (.lst us) b ≠ none := h2
        by_cases hbD : b = D
        · subst hbD; exact .inl hD
        · rw [upd_ne hbD] at h2
          exact st.st.newF b h1 h2
end
theorem de_lcO {X : Cx} {w : Wi} {elt tg iter : Expr} {ifs : List Expr} {scope : Scope} {pos : Pos} {i : SL} {g : Gm} {t : SB} {f : SE} {ws : List Nat} (own : List (Str × Nat)) (hc : X.calm = true) (hN : X.N.Nodup) (hi : DIo X w tg iter i) (ok : BlkOk X.N X.env.scope scope own)
    (hg : ∀ (s : Shared) (H : Hp) (C : Addr) (cl : List (Str × Addr)) (fp : List Addr), DG (X.blk s H scope (compEnvC scope cl C X.env) fp) tg ws g) (ht : ∀ (s : Shared) (H : Hp) (C : Addr) (cl : List (Str × Addr)) (fp : List Addr), DTs (X.blk s H scope (compEnvC scope cl C X.env) fp) w.no ifs t)
    (he : ∀ (s : Shared) (H : Hp) (C : Addr) (cl : List (Str × Addr)) (fp : List Addr), DE (X.blk s H scope (compEnvC scope cl C X.env) fp) w.no elt f) (hw : ∀ i ∈ ws, i ∈ own.map (·.2) := by decide) (hs : ∀ x, foldedSetIterable iter X.env x = pure x := by intro _; rfl) :
    DE X w (.ListComp elt [⟨tg, iter, ifs, 0⟩] scope pos) (sLc (own.map (·.2)) i g t f) :=
  PE.imp (pe_lc hc hN hi ok hg ht he hs) fun s H Q q => lc_rdO hw s H Q q
/-- what a slot's own list holds -/
def sOwnIt (j : Nat) : SL := fun r m => match r[j]? with
  | some (some (.lst l)) => .ok l m
  | _ => .bad
theorem di_ownO {X : Cx} {w : Wi} {tg e : Expr} {j : Nat} (he : PE X e (tVar j)) : DIo X w tg e (sOwnIt j) := PI.imp (pi_any he) fun s H R ⟨x, r, m, Rl, q⟩ => by
  unfold sOwnIt at q
  split at q
  · rename_i l hl
    obtain ⟨a, vs, es, haA, ha, rp, _⟩ := Rl.own (l' := []) hl
    refine ⟨.ref a, es, .lst a vs, rfl, ha, q _ x H Rl ⟨fun H' => H' a = some (.lst vs), ⟨fun F' H i _ _ hk hi => ?_, fun F' H _ _ hk => ?_, fun F' io' H i d v H' s1 s2 _ hk e hy => ?_⟩, fun y H' st => st.st.keep a _ ha fun z => (List.nodup_append.mp Rl.nd).2.2 a haA a z rfl⟩ .refl⟩
    · exact (walk_list (xs := vs)).goes i H (by rw [← rp.length]; exact hi) (SqL.of hk)
    · rw [rp.length]
      exact (walk_list (xs := vs)).stops H (SqL.of hk)
    · have y := (walk_list (xs := vs)).yields i H v H' (by
        rw [← rp.length]
        exact (List.getElem?_eq_some_iff.mp e).1) (SqL.of hk) hy
      obtain ⟨y1, y2⟩ := y
      subst y1
      obtain ⟨q', e4, r'⟩ := rp.getV y2
      rw [e] at e4
      cases e4
      exact .here (r'.mono s1 s2)
  · exact q.elim
end Dl
namespace Dl
open PySem PySem.Spec PyProof.Rows L2 TL
def n_is_kind : List Str := ["sign"]
def b_is_kind : SS := sRet (sAndV (sBin opEq (sCall fLen (aCons (sPk 0) (aNil))) (sC (.int 1))) (sBin opIn (sPk 0) (sC (.str [97, 98, 99, 100, 101]))))
def f_is_kind : Fd := fD n_is_kind b_is_kind
def n_is_rule : List Str := ["rule"]
def b_is_rule : SS := sSeq (sIfS (sOr (sB (sBin opNe (sCall fLen (aCons (sPk 0) (aNil))) (sC (.int 5)))) (sOr (sNot (sB (sCall (callF 1 f_is_kind) (aCons (sBin opIx (sPk 0) (sC (.int 0))) (aNil))))) (sOr (sNot (sB (sCall (callF 1 f_is_kind) (aCons (sBin opIx (sPk 0) (sC (.int 1))) (aNil))))) (sNot (sB (sCall (callF 1 f_is_kind) (aCons (sBin opIx (sPk 0) (sC (.int 4))) (aNil)))))))) (sRet (sC (.bl false))) (sSkip)) (sRet (sAndV (sBin opNe (sBin opIx (sPk 0) (sC (.int 4))) (sBin opIx (sPk 0) (sC (.int 0)))) (sAndV (sChain opLe opLe (sC (.int 1)) (sBin opIx (sPk 0) (sC (.int 2))) (sC (.int 2))) (sChain opLe opLe (sC (.int 1)) (sBin opIx (sPk 0) (sC (.int 3))) (sC (.int 4))))))
def f_is_rule : Fd := fD n_is_rule b_is_rule
def n_need_rules : List Str := ["rules", "number", "rule"]
def b_need_rules1 : SS := sSeq (sIfS (sOr (sB (sBin opEq (sPk 1) (sC (.int 5)))) (sNot (sB (sCall (callF 1 f_is_rule) (aCons (sVar 2) (aNil)))))) ((fun _ _ => .bad)) (sSkip)) (sForget 1 (sForget 2 (sSkip)))
def g_need_rules2 : Gm := gTup (gsCons (gN 1) (gsCons (gN 2) (gsNil)))
def b_need_rules : SS := sFor (sEn (aCons (sVar 0) (aNil))) (g_need_rules2) (b_need_rules1)
def f_need_rules : Fd := fD n_need_rules b_need_rules
def n_Shelf___init__ : List Str := ["self", "rules", "rule"]
def g_Shelf___init__1 : Gm := gN 2
def f_Shelf___init__2 : SE := sCall fTuple (aCons (sPk 2) (aNil))
def b_Shelf___init__ : SS := sSeq (sExpr (sCall (callF 1 f_need_rules) (aCons (sVar 1) (aNil)))) (sSeq (sSetF "Shelf" 0 "rules" (cV (sCall fTuple (aCons (sLc [2] (sIt (sVar 1)) (g_Shelf___init__1) (sYes) (f_Shelf___init__2)) (aNil))))) (sSeq (sSetF "Shelf" 0 "row" (cV (sC (.str [])))) (sSeq (sSetF "Shelf" 0 "counts" (cV (sTup (aNil)))) (sSeq (sSetF "Shelf" 0 "walls" (cL (aNil))) (sSetF "Shelf" 0 "notes" (cL (aNil)))))))
def f_Shelf___init__ : Fd := fD n_Shelf___init__ b_Shelf___init__
def n_Shelf_need_place : List Str := ["self", "place", "most"]
def b_Shelf_need_place : SS := sIfS (sNot (sB (sChain opLe opLt (sC (.int 0)) (sPk 1) (sPk 2)))) ((fun _ _ => .bad)) (sSkip)
def f_Shelf_need_place : Fd := fD n_Shelf_need_place b_Shelf_need_place
def n_Shelf_bar : List Str := ["self", "place"]
def b_Shelf_bar : SS := sSeq (sExpr (sMethC "Shelf" "need_place" 0 3 f_Shelf_need_place (aCons (sVar 1) (aCons (sCall fLen (aCons (sFld "Shelf" 0 "row") (aNil))) (aNil))))) (sSeq (sIfS (sB (sIxF "Shelf" 0 "walls" (qVar 1))) ((fun _ _ => .bad)) (sSkip)) (sSeq (sPutF "Shelf" 0 "walls" (qVar 1) (qC (.bl true))) (sAppF "Shelf" 0 "notes" (qTup (qCons (qC (.str [98, 97, 114])) (qCons (qVar 1) (qNil)))))))
def f_Shelf_bar : Fd := fD n_Shelf_bar b_Shelf_bar
def n_Shelf_deeds : List Str := ["self"]
def b_Shelf_deeds : SS := sRet (sListF "Shelf" 0 "notes")
def f_Shelf_deeds : Fd := fD n_Shelf_deeds b_Shelf_deeds
def n_Shelf_look : List Str := ["self", "kind", "some", "wall"]
def g_Shelf_look1 : Gm := gTup (gsCons (gN 1) (gsCons (gN 2) (gsCons (gN 3) (gsNil))))
def f_Shelf_look2 : SE := sTup (aCons (sVar 1) (aCons (sVar 2) (aCons (sVar 3) (aNil))))
def b_Shelf_look : SS := sRet (sLc [1, 2, 3] (sIt (sLook "Shelf" 0 "row" "counts" "walls")) (g_Shelf_look1) (sYes) (f_Shelf_look2))
def f_Shelf_look : Fd := fD n_Shelf_look b_Shelf_look
def n_Shelf_put : List Str := ["self", "place", "kind"]
def b_Shelf_put : SS := sSeq (sIfS (sNot (sB (sChain opLe opLe (sC (.int 0)) (sPk 1) (sCall fLen (aCons (sFld "Shelf" 0 "row") (aNil)))))) ((fun _ _ => .bad)) (sSkip)) (sSeq (sIfS (sNot (sB (sCall (callF 1 f_is_kind) (aCons (sVar 2) (aNil))))) ((fun _ _ => .bad)) (sSkip)) (sSeq (sIfS (sB (sBin opEq (sCall fLen (aCons (sFld "Shelf" 0 "row") (aNil))) (sC (.int 12)))) ((fun _ _ => .bad)) (sSkip)) (sSeq (sSetF "Shelf" 0 "row" (cV (sBin opAdd (sBin opAdd (sSl (sFld "Shelf" 0 "row") (oNone) (oSome (sPk 1))) (sPk 2)) (sSl (sFld "Shelf" 0 "row") (oSome (sPk 1)) (oNone))))) (sSeq (sSetF "Shelf" 0 "counts" (cV (sBin opAdd (sBin opAdd (sSl (sFld "Shelf" 0 "counts") (oNone) (oSome (sPk 1))) (sTup (aCons (sBin opMul (sTup (aCons (sC (.int 0)) (aNil))) (sCall fLen (aCons (sFld "Shelf" 0 "rules") (aNil)))) (aNil)))) (sSl (sFld "Shelf" 0 "counts") (oSome (sPk 1)) (oNone))))) (sSeq (sSetF "Shelf" 0 "walls" (cCat (sBin opAdd (sSlF "Shelf" 0 "walls" (qoNone) (qoSome (qVar 1))) (sLst (aCons (sC (.bl false)) (aNil)))) (sSlF "Shelf" 0 "walls" (qoSome (qVar 1)) (qoNone)))) (sAppF "Shelf" 0 "notes" (qTup (qCons (qC (.str [112, 117, 116])) (qCons (qVar 1) (qCons (qVar 2) (qNil)))))))))))
def f_Shelf_put : Fd := fD n_Shelf_put b_Shelf_put
def n_beside : List Str := ["row", "bars", "place", "found"]
def b_beside : SS := sSeq (sSet 3 (cL (aNil))) (sSeq (sIfS (sAnd (sB (sBin opGt (sPk 2) (sC (.int 0)))) (sB (sBin opNin (sBin opSub (sPk 2) (sC (.int 1))) (sPk 1)))) (sApp 3 (sBin opIx (sPk 0) (sBin opSub (sPk 2) (sC (.int 1))))) (sSkip)) (sSeq (sIfS (sAnd (sB (sBin opLt (sPk 2) (sBin opSub (sCall fLen (aCons (sPk 0) (aNil))) (sC (.int 1))))) (sB (sBin opNin (sPk 2) (sPk 1)))) (sApp 3 (sBin opIx (sPk 0) (sBin opAdd (sPk 2) (sC (.int 1))))) (sSkip)) (sFreeze 3 (sRet (sVar 3)))))
def f_beside : Fd := fD n_beside b_beside
def n_counted : List Str := ["row", "bars", "rules", "counts", "found", "place", "kind", "near", "new", "rule", "old", "is_so"]
def b_counted1 : SS := sSeq (sSet 11 (cV (sAndV (sBin opEq (sBin opIx (sPk 9) (sC (.int 0))) (sPk 6)) (sBin opGe (sMeth "list" fCnt (sPk 7) (aCons (sBin opIx (sPk 9) (sC (.int 1))) aNil)) (sBin opIx (sPk 9) (sC (.int 2))))))) (sSeq (sApp 8 (sIf (sB (sVar 11)) (sCall fMin (aCons (sBin opIx (sPk 9) (sC (.int 3))) (aCons (sBin opAdd (sPk 10) (sC (.int 1))) (aNil)))) (sC (.int 0)))) (sForget 9 (sForget 10 (sForget 11 (sSkip)))))
def g_counted2 : Gm := gTup (gsCons (gN 9) (gsCons (gN 10) (gsNil)))
def b_counted3 : SS := sSeq (sSet 7 (cV (sCall (callF 3 f_beside) (aCons (sVar 0) (aCons (sVar 1) (aCons (sVar 5) (aNil))))))) (sSeq (sSet 8 (cL (aNil))) (sSeq (sFor (sZ2 (aCons (sVar 2) (aCons (sBin opIx (sPk 3) (sPk 5)) (aNil)))) (g_counted2) (b_counted1)) (sSeq (sApp 4 (sCall fTuple (aCons (sPk 8) (aNil)))) (sForget 5 (sForget 6 (sForget 7 (sForget 8 (sForget 9 (sForget 10 (sForget 11 (sSkip)))))))))))
def g_counted4 : Gm := gTup (gsCons (gN 5) (gsCons (gN 6) (gsNil)))
def b_counted : SS := sSeq (sSet 4 (cL (aNil))) (sSeq (sFor (sEn (aCons (sVar 0) (aNil))) (g_counted4) (b_counted3)) (sFreeze 4 (sRet (sVar 4))))
def f_counted : Fd := fD n_counted b_counted
def n_turned : List Str := ["row", "rules", "counts", "kinds", "found", "kind", "some", "ripe", "rule", "count"]
def g_turned1 : Gm := gTup (gsCons (gN 8) (gsCons (gN 9) (gsNil)))
def t_turned2 : SB := sB (sBin opEq (sPk 9) (sBin opIx (sPk 8) (sC (.int 3))))
def f_turned3 : SE := sBin opIx (sPk 8) (sC (.int 4))
def b_turned4 : SS := sSeq (sAsg (gN 7) (sLc [8, 9] (sZ2 (aCons (sVar 1) (aCons (sVar 6) (aNil)))) (g_turned1) (t_turned2) (f_turned3))) (sSeq (sApp 3 (sIf (sB (sBin opNe (sPk 7) (sLst (aNil)))) (sBin opIx (sPk 7) (sC (.int 0))) (sVar 5))) (sSeq (sApp 4 (sIf (sB (sBin opNe (sPk 7) (sLst (aNil)))) (sBin opMul (sTup (aCons (sC (.int 0)) (aNil))) (sCall fLen (aCons (sPk 1) (aNil)))) (sVar 6))) (sForget 5 (sForget 6 (sForget 7 (sSkip))))))
def g_turned5 : Gm := gTup (gsCons (gN 5) (gsCons (gN 6) (gsNil)))
def b_turned : SS := sSeq (sPar 3 4 (cL (aNil)) (cL (aNil))) (sSeq (sFor (sZ2 (aCons (sVar 0) (aCons (sVar 2) (aNil)))) (g_turned5) (b_turned4)) (sRet (sTup (aCons (sMeth "str" fJoin (sC (.str [])) (aCons (sPk 3) aNil)) (aCons (sCall fTuple (aCons (sPk 4) (aNil))) (aNil))))))
def f_turned : Fd := fD n_turned b_turned
def n_beat_of : List Str := ["world", "row", "counts"]
def b_beat_of : SS := sRet (sCall (callF 3 f_turned) (aCons (sVar 1) (aCons (sBin opIx (sPk 0) (sC (.int 2))) (aCons (sCall (callF 4 f_counted) (aCons (sVar 1) (aCons (sBin opIx (sPk 0) (sC (.int 1))) (aCons (sBin opIx (sPk 0) (sC (.int 2))) (aCons (sVar 2) (aNil)))))) (aNil)))))
def f_beat_of : Fd := fD n_beat_of b_beat_of
def n_Shelf_bars : List Str := ["self", "place"]
def g_Shelf_bars1 : Gm := gN 1
def t_Shelf_bars2 : SB := sB (sIxF "Shelf" 0 "walls" (qVar 1))
def f_Shelf_bars3 : SE := sVar 1
def b_Shelf_bars : SS := sRet (sCall fTuple (aCons (sLc [1] (sRg (aCons (sBin opSub (sCall fLen (aCons (sFld "Shelf" 0 "row") (aNil))) (sC (.int 1))) (aNil))) (g_Shelf_bars1) (t_Shelf_bars2) (f_Shelf_bars3)) (aNil)))
def f_Shelf_bars : Fd := fD n_Shelf_bars b_Shelf_bars
def n_Shelf_tick : List Str := ["self", "old", "place"]
def g_Shelf_tick1 : Gm := gN 2
def t_Shelf_tick2 : SB := sB (sBin opNe (sBin opIx (sFld "Shelf" 0 "row") (sPk 2)) (sBin opIx (sPk 1) (sPk 2)))
def f_Shelf_tick3 : SE := sVar 2
def b_Shelf_tick : SS := sSeq (sSet 1 (cV (sFld "Shelf" 0 "row"))) (sSeq (sSetF2 "Shelf" 0 "row" "counts" (sCall (callF 3 f_beat_of) (aCons (sTup (aCons (sVar 1) (aCons (sMethC "Shelf" "bars" 0 1 f_Shelf_bars (aNil)) (aCons (sFld "Shelf" 0 "rules") (aNil))))) (aCons (sVar 1) (aCons (sFld "Shelf" 0 "counts") (aNil)))))) (sSeq (sAppF "Shelf" 0 "notes" (qTup (qCons (qC (.str [116, 105, 99, 107])) (qNil)))) (sRet (sLc [2] (sRg (aCons (sCall fLen (aCons (sPk 1) (aNil))) (aNil))) (g_Shelf_tick1) (t_Shelf_tick2) (f_Shelf_tick3)))))
def f_Shelf_tick : Fd := fD n_Shelf_tick b_Shelf_tick
def n_Shelf_world : List Str := ["self"]
def b_Shelf_world : SS := sRet (sTup (aCons (sFld "Shelf" 0 "row") (aCons (sMethC "Shelf" "bars" 0 1 f_Shelf_bars (aNil)) (aCons (sFld "Shelf" 0 "rules") (aNil)))))
def f_Shelf_world : Fd := fD n_Shelf_world b_Shelf_world
def n_Shelf_take : List Str := ["self", "place", "kind"]
def b_Shelf_take : SS := sSeq (sExpr (sMethC "Shelf" "need_place" 0 3 f_Shelf_need_place (aCons (sVar 1) (aCons (sCall fLen (aCons (sFld "Shelf" 0 "row") (aNil))) (aNil))))) (sSeq (sSet 2 (cV (sBin opIx (sFld "Shelf" 0 "row") (sPk 1)))) (sSeq (sSetF "Shelf" 0 "row" (cV (sBin opAdd (sSl (sFld "Shelf" 0 "row") (oNone) (oSome (sPk 1))) (sSl (sFld "Shelf" 0 "row") (oSome (sBin opAdd (sPk 1) (sC (.int 1)))) (oNone))))) (sSeq (sSetF "Shelf" 0 "counts" (cV (sBin opAdd (sSl (sFld "Shelf" 0 "counts") (oNone) (oSome (sPk 1))) (sSl (sFld "Shelf" 0 "counts") (oSome (sBin opAdd (sPk 1) (sC (.int 1)))) (oNone))))) (sSeq (sSetF "Shelf" 0 "walls" (cCat (sSlF "Shelf" 0 "walls" (qoNone) (qoSome (qVar 1))) (sSlF "Shelf" 0 "walls" (qoSome (qAdd (qVar 1) 1)) (qoNone)))) (sSeq (sAppF "Shelf" 0 "notes" (qTup (qCons (qC (.str [116, 97, 107, 101])) (qCons (qVar 1) (qNil))))) (sRet (sVar 2)))))))
def f_Shelf_take : Fd := fD n_Shelf_take b_Shelf_take
def n_Shelf_unbar : List Str := ["self", "place"]
def b_Shelf_unbar : SS := sSeq (sExpr (sMethC "Shelf" "need_place" 0 3 f_Shelf_need_place (aCons (sVar 1) (aCons (sCall fLen (aCons (sFld "Shelf" 0 "row") (aNil))) (aNil))))) (sSeq (sIfS (sNot (sB (sIxF "Shelf" 0 "walls" (qVar 1)))) ((fun _ _ => .bad)) (sSkip)) (sSeq (sPutF "Shelf" 0 "walls" (qVar 1) (qC (.bl false))) (sAppF "Shelf" 0 "notes" (qTup (qCons (qC (.str [117, 110, 98, 97, 114])) (qCons (qVar 1) (qNil)))))))
def f_Shelf_unbar : Fd := fD n_Shelf_unbar b_Shelf_unbar
def n_do : List Str := ["shelf", "deed", "word", "rest"]
def b_do : SS := sSeq (sStar 2 3 (sVar 1)) (sIfS (sB (sBin opEq (sPk 2) (sC (.str [112, 117, 116])))) (sExpr (sMethC "Shelf" "put" 0 3 f_Shelf_put (aCons (sBin opIx (sPk 3) (sC (.int 0))) (aCons (sBin opIx (sPk 3) (sC (.int 1))) (aNil))))) (sIfS (sB (sBin opEq (sPk 2) (sC (.str [116, 97, 107, 101])))) (sExpr (sMethC "Shelf" "take" 0 2 f_Shelf_take (aCons (sBin opIx (sPk 3) (sC (.int 0))) (aNil)))) (sIfS (sB (sBin opEq (sPk 2) (sC (.str [98, 97, 114])))) (sExpr (sMethC "Shelf" "bar" 0 2 f_Shelf_bar (aCons (sBin opIx (sPk 3) (sC (.int 0))) (aNil)))) (sIfS (sB (sBin opEq (sPk 2) (sC (.str [117, 110, 98, 97, 114])))) (sExpr (sMethC "Shelf" "unbar" 0 2 f_Shelf_unbar (aCons (sBin opIx (sPk 3) (sC (.int 0))) (aNil)))) (sExpr (sMethC "Shelf" "tick" 0 1 f_Shelf_tick (aNil)))))))
def f_do : Fd := fD n_do b_do
def n_again : List Str := ["rules", "deeds", "shelf", "number", "deed", "e"]
def b_again1 : SS := sSeq (sIfS (sOr (sB (sBin opEq (sCall fLen (aCons (sPk 4) (aNil))) (sC (.int 0)))) (sB (sBin opNe (sTabGet [([112, 117, 116], 3), ([116, 97, 107, 101], 2), ([98, 97, 114], 2), ([117, 110, 98, 97, 114], 2), ([116, 105, 99, 107], 1)] (sBin opIx (sPk 4) (sC (.int 0)))) (sCall fLen (aCons (sPk 4) (aNil)))))) ((fun _ _ => .bad)) (sSkip)) (sSeq (sTry0 (sExpr (sCall (callF 2 f_do) (aCons (sVar 2) (aCons (sVar 4) (aNil)))))) (sForget 3 (sForget 4 (sSkip))))
def g_again2 : Gm := gTup (gsCons (gN 3) (gsCons (gN 4) (gsNil)))
def b_again : SS := sSeq (sSet 2 (cV (sMake "Shelf" 2 f_Shelf___init__ (aCons (sVar 0) (aNil))))) (sSeq (sFor (sEn (aCons (sVar 1) (aNil))) (g_again2) (b_again1)) (sRet (sVar 2)))
def f_again : Fd := fD n_again b_again
def n_need_row : List Str := ["row", "place", "sign"]
def b_need_row1 : SS := sSeq (sIfS (sOr (sB (sBin opEq (sPk 1) (sC (.int 12)))) (sB (sBin opNin (sPk 2) (sC (.str [97, 98, 99, 100, 101]))))) ((fun _ _ => .bad)) (sSkip)) (sForget 1 (sForget 2 (sSkip)))
def g_need_row2 : Gm := gTup (gsCons (gN 1) (gsCons (gN 2) (gsNil)))
def b_need_row : SS := sSeq (sFor (sEn (aCons (sVar 0) (aNil))) (g_need_row2) (b_need_row1)) (sIfS (sB (sBin opEq (sPk 0) (sC (.str [])))) ((fun _ _ => .bad)) (sSkip))
def f_need_row : Fd := fD n_need_row b_need_row
def n_need_bars : List Str := ["row", "bars", "number", "gap"]
def b_need_bars1 : SS := sSeq (sIfS (sOr (sNot (sB (sChain opLe opLt (sC (.int 0)) (sPk 3) (sBin opSub (sCall fLen (aCons (sPk 0) (aNil))) (sC (.int 1)))))) (sAnd (sB (sBin opGt (sPk 2) (sC (.int 0)))) (sB (sBin opLe (sPk 3) (sBin opIx (sPk 1) (sBin opSub (sPk 2) (sC (.int 1)))))))) ((fun _ _ => .bad)) (sSkip)) (sForget 2 (sForget 3 (sSkip)))
def g_need_bars2 : Gm := gTup (gsCons (gN 2) (gsCons (gN 3) (gsNil)))
def b_need_bars : SS := sFor (sEn (aCons (sVar 1) (aNil))) (g_need_bars2) (b_need_bars1)
def f_need_bars : Fd := fD n_need_bars b_need_bars
def n_need_world : List Str := ["world", "row", "bars", "rules"]
def b_need_world : SS := sSeq (sAsg (gTup (gsCons (gN 1) (gsCons (gN 2) (gsCons (gN 3) (gsNil))))) (sVar 0)) (sSeq (sExpr (sCall (callF 1 f_need_row) (aCons (sVar 1) (aNil)))) (sSeq (sExpr (sCall (callF 2 f_need_bars) (aCons (sVar 1) (aCons (sVar 2) (aNil))))) (sExpr (sCall (callF 1 f_need_rules) (aCons (sVar 3) (aNil))))))
def f_need_world : Fd := fD n_need_world b_need_world
def n_begun : List Str := ["row", "rules", "kind"]
def g_begun1 : Gm := gN 2
def f_begun2 : SE := sBin opMul (sTup (aCons (sC (.int 0)) (aNil))) (sCall fLen (aCons (sPk 1) (aNil)))
def b_begun : SS := sRet (sCall fTuple (aCons (sLc [2] (sIt (sVar 0)) (g_begun1) (sYes) (f_begun2)) (aNil)))
def f_begun : Fd := fD n_begun b_begun
def n_beats : List Str := ["world", "many", "row", "counts", "found", "turn"]
def b_beats1 : SS := sSeq (sApp 4 (sVar 2)) (sSeq (sAsg (gTup (gsCons (gN 2) (gsCons (gN 3) (gsNil)))) (sCall (callF 3 f_beat_of) (aCons (sVar 0) (aCons (sVar 2) (aCons (sVar 3) (aNil)))))) (sForget 5 (sSkip)))
def g_beats2 : Gm := gN 5
def b_beats : SS := sSeq (sExpr (sCall (callF 1 f_need_world) (aCons (sVar 0) (aNil)))) (sSeq (sIfS (sNot (sB (sChain opLe opLe (sC (.int 0)) (sPk 1) (sC (.int 300))))) ((fun _ _ => .bad)) (sSkip)) (sSeq (sPar 2 3 (cV (sBin opIx (sPk 0) (sC (.int 0)))) (cV (sCall (callF 2 f_begun) (aCons (sBin opIx (sPk 0) (sC (.int 0))) (aCons (sBin opIx (sPk 0) (sC (.int 2))) (aNil)))))) (sSeq (sSet 4 (cL (aNil))) (sSeq (sFor (sRg (aCons (sVar 1) (aNil))) (g_beats2) (b_beats1)) (sFreeze 4 (sRet (sVar 4)))))))
def f_beats : Fd := fD n_beats b_beats
def f__law_next : Fd := fNext
def n__law_alike : List Str := ["_law_found", "_law_due", "_law_k"]
def g__law_alike1 : Gm := gN 2
def t__law_alike2 (φ : Fd) : SB := sNot (sB (sCall (callF 2 φ) (aCons (sBin opIx (sPk 0) (sPk 2)) (aCons (sBin opIx (sPk 1) (sPk 2)) (aNil)))))
def f__law_alike3 (φ : Fd) : SE := sVar 2
def b__law_alike (φ : Fd) : SS := sSeq (sIfS (sB (sCall fIsi (aCons (sPk 1) (aCons (sTup (aCons (sC (.cst (.ty "tuple"))) (aCons (sC (.cst (.ty "list"))) (aNil)))) (aNil))))) (sSeq (sIfS (sOr (sNot (sB (sCall fIsi (aCons (sPk 0) (aCons (sTup (aCons (sC (.cst (.ty "tuple"))) (aCons (sC (.cst (.ty "list"))) (aNil)))) (aNil)))))) (sB (sBin opNe (sCall fIsi (aCons (sPk 0) (aCons (sC (.cst (.ty "list"))) (aNil)))) (sCall fIsi (aCons (sPk 1) (aCons (sC (.cst (.ty "list"))) (aNil))))))) (sRet (sC (.bl false))) (sSkip)) (sSeq (sIfS (sB (sBin opNe (sCall fLen (aCons (sPk 0) (aNil))) (sCall fLen (aCons (sPk 1) (aNil))))) (sRet (sC (.bl false))) (sSkip)) (sRet (sBin opEq (sLc [2] (sRg (aCons (sCall fLen (aCons (sPk 1) (aNil))) (aNil))) (g__law_alike1) (t__law_alike2 φ) (f__law_alike3 φ)) (sLst (aNil)))))) (sSkip)) (sSeq (sIfS (sOr (sB (sBin opIs (sPk 1) (sC .non))) (sB (sCall fIsi (aCons (sPk 1) (aCons (sC (.cst (.ty "str"))) (aNil)))))) (sRet (sAndV (sBin opEq (sPk 0) (sPk 1)) (sBin opEq (sCall fIsi (aCons (sPk 0) (aCons (sC (.cst (.ty "str"))) (aNil)))) (sCall fIsi (aCons (sPk 1) (aCons (sC (.cst (.ty "str"))) (aNil))))))) (sSkip)) (sRet (sAndV (sCall fIsi (aCons (sPk 0) (aCons (sC (.cst (.ty "int"))) (aNil)))) (sAndV (sBin opEq (sCall fIsi (aCons (sPk 0) (aCons (sC (.cst (.ty "bool"))) (aNil)))) (sCall fIsi (aCons (sPk 1) (aCons (sC (.cst (.ty "bool"))) (aNil))))) (sBin opEq (sPk 0) (sPk 1))))))
def f__law_alike : Fd := recF (fun φ => fD n__law_alike (b__law_alike φ)) 8
def n__law_rules : List Str := ["_law_h", "_law_kinds", "_law_many", "_law_found", "_law_k", "_law_kind", "_law_near", "_law_later"]
def b__law_rules1 : SS := sStrike [97, 98, 99, 100, 101] 5 6 7 (sCall (callF 2 f__law_next) (aCons (sVar 0) (aCons (sVar 1) (aNil)))) (sBin opIx (sC (.str [97, 98, 99, 100, 101])) (sCall (callF 2 f__law_next) (aCons (sVar 0) (aCons (sVar 1) (aNil))))) (sCall (callF 2 f__law_next) (aCons (sVar 0) (aCons (sCall fMax (aCons (sC (.int 1)) (aCons (sBin opSub (sPk 1) (sC (.int 1))) (aNil)))) (aNil)))) (sSeq (sApp 3 (sTup (aCons (sVar 5) (aCons (sVar 6) (aCons (sBin opAdd (sC (.int 1)) (sBin opDiv (sCall (callF 2 f__law_next) (aCons (sVar 0) (aCons (sC (.int 3)) (aNil)))) (sC (.int 2)))) (aCons (sBin opAdd (sC (.int 1)) (sBin opMul (sCall (callF 2 f__law_next) (aCons (sVar 0) (aCons (sC (.int 4)) (aNil)))) (sCall (callF 2 f__law_next) (aCons (sVar 0) (aCons (sC (.int 2)) (aNil)))))) (aCons (sVar 7) (aNil)))))))) (sForget 4 (sForget 5 (sForget 6 (sForget 7 (sSkip))))))
def g__law_rules2 : Gm := gN 4
def b__law_rules : SS := sSeq (sSet 3 (cL (aNil))) (sSeq (sFor (sRg (aCons (sCall (callF 2 f__law_next) (aCons (sVar 0) (aCons (sBin opAdd (sPk 2) (sC (.int 1))) (aNil)))) (aNil))) (g__law_rules2) (b__law_rules1)) (sRet (sCall fTuple (aCons (sPk 3) (aNil)))))
def f__law_rules : Fd := fD n__law_rules b__law_rules
def n__law_world : List Str := ["_law_h", "_law_jars", "_law_kinds", "_law_many", "_law_row", "_law_k", "_law_bars", "_law_gap"]
def g__law_world1 : Gm := gN 5
def f__law_world2 : SE := sBin opIx (sC (.str [97, 98, 99, 100, 101])) (sCall (callF 2 f__law_next) (aCons (sVar 0) (aCons (sVar 2) (aNil))))
def g__law_world3 : Gm := gN 7
def t__law_world4 : SB := sB (sBin opEq (sCall (callF 2 f__law_next) (aCons (sVar 0) (aCons (sC (.int 5)) (aNil)))) (sC (.int 0)))
def f__law_world5 : SE := sVar 7
def b__law_world : SS := sSeq (sSet 4 (cV (sMeth "str" fJoin (sC (.str [])) (aCons (sLc [5] (sRg (aCons (sBin opAdd (sC (.int 1)) (sCall (callF 2 f__law_next) (aCons (sVar 0) (aCons (sVar 1) (aNil))))) (aNil))) (g__law_world1) (sYes) (f__law_world2)) aNil)))) (sSeq (sSet 6 (cV (sCall fTuple (aCons (sLc [7] (sRg (aCons (sBin opSub (sCall fLen (aCons (sPk 4) (aNil))) (sC (.int 1))) (aNil))) (g__law_world3) (t__law_world4) (f__law_world5)) (aNil))))) (sRet (sTup (aCons (sVar 4) (aCons (sVar 6) (aCons (sCall (callF 3 f__law_rules) (aCons (sVar 0) (aCons (sVar 2) (aCons (sVar 3) (aNil))))) (aNil)))))))
def f__law_world : Fd := fD n__law_world b__law_world
def n_law : List Str := ["_law_script", "_law_h", "_law_turn", "_law_world_here", "_law_row", "_law_bars", "_law_rules_here", "_law_shelf", "_law_there", "_law_left", "_law_place", "_law_at", "_law_other", "_law_gap", "_law_rows", "_law_beat", "_law_told", "_law_k", "_law_quiet", "_law_kind", "_law_some", "_law_shut", "_law_count"]
def g_law1 : Gm := gN 12
def t_law2 : SB := sB (sBin opLt (sPk 12) (sPk 10))
def f_law3 : SE := sVar 12
def b_law4 : SS := sSeq (sPop 10 9 (sCall (callF 2 f__law_next) (aCons (sVar 1) (aCons (sCall fLen (aCons (sPk 9) (aNil))) (aNil))))) (sSeq (sSet 11 (cV (sCall fLen (aCons (sLc [12] (sOwnIt 8) (g_law1) (t_law2) (f_law3)) (aNil))))) (sSeq (sExpr (sMethC "Shelf" "put" 7 3 f_Shelf_put (aCons (sVar 11) (aCons (sBin opIx (sPk 4) (sPk 10)) (aNil))))) (sSeq (sApp 8 (sVar 10)) (sForget 10 (sForget 11 (sSkip))))))
def t_law5 : SB := sB (sBin opNe (sPk 9) (sLst (aNil)))
def b_law6 : SS := sSeq (sExpr (sMethC "Shelf" "bar" 7 2 f_Shelf_bar (aCons (sVar 13) (aNil)))) (sForget 13 (sSkip))
def g_law7 : Gm := gN 13
def g_law8 : Gm := gN 17
def t_law9 : SB := sB (sBin opNe (sBin opIx (sBin opIx (sPk 14) (sPk 15)) (sPk 17)) (sBin opIx (sBin opIx (sPk 14) (sBin opAdd (sPk 15) (sC (.int 1)))) (sPk 17)))
def f_law10 : SE := sVar 17
def g_law11 : Gm := gN 22
def t_law12 : SB := sB (sBin opGt (sPk 22) (sC (.int 0)))
def f_law13 : SE := sVar 22
def g_law14 : Gm := gTup (gsCons (gN 19) (gsCons (gN 20) (gsCons (gN 21) (gsNil))))
def t_law15 : SB := sB (sBin opNe (sLc [22] (sIt (sVar 20)) (g_law11) (t_law12) (f_law13)) (sLst (aNil)))
def f_law16 : SE := sVar 20
def b_law17 : SS := sSeq (sSet 16 (cV (sMethC "Shelf" "tick" 7 1 f_Shelf_tick (aNil)))) (sSeq (sIfS (sB (sBin opNe (sMethC "Shelf" "world" 7 1 f_Shelf_world (aNil)) (sTup (aCons (sBin opIx (sPk 14) (sBin opAdd (sPk 15) (sC (.int 1)))) (aCons (sVar 5) (aCons (sVar 6) (aNil))))))) (sRet (sC (.bl false))) (sSkip)) (sSeq (sIfS (sNot (sB (sCall (callF 2 f__law_alike) (aCons (sVar 16) (aCons (sLc [17] (sRg (aCons (sCall fLen (aCons (sPk 4) (aNil))) (aNil))) (g_law8) (t_law9) (f_law10)) (aNil)))))) (sRet (sC (.bl false))) (sSkip)) (sSeq (sSet 18 (cV (sBin opEq (sLc [19, 20, 21] (sIt (sMethC "Shelf" "look" 7 1 f_Shelf_look (aNil))) (g_law14) (t_law15) (f_law16)) (sLst (aNil))))) (sSeq (sIfS (sAnd (sB (sVar 18)) (sAnd (sB (sBin opLt (sPk 15) (sC (.int 20)))) (sB (sBin opNe (sCall (callF 2 f_beats) (aCons (sMethC "Shelf" "world" 7 1 f_Shelf_world (aNil)) (aCons (sC (.int 5)) (aNil)))) (sSl (sPk 14) (oSome (sBin opAdd (sPk 15) (sC (.int 1)))) (oSome (sBin opAdd (sPk 15) (sC (.int 6))))))))) (sRet (sC (.bl false))) (sSkip)) (sForget 15 (sForget 16 (sForget 18 (sSkip))))))))
def g_law18 : Gm := gN 15
def b_law19 : SS := sSeq (sSet 3 (cV (sCall (callF 4 f__law_world) (aCons (sVar 1) (aCons (sC (.int 12)) (aCons (sC (.int 4)) (aCons (sC (.int 5)) (aNil)))))))) (sSeq (sAsg (gTup (gsCons (gN 4) (gsCons (gN 5) (gsCons (gN 6) (gsNil))))) (sVar 3)) (sSeq (sPar 7 8 (cV (sMake "Shelf" 2 f_Shelf___init__ (aCons (sVar 6) (aNil)))) (cL (aNil))) (sSeq (sSet 9 (cLstRg (sCall fLen (aCons (sPk 4) (aNil))))) (sSeq (whileN (t_law5) (b_law4) 100000) (sSeq (sFor (sIt (sVar 5)) (g_law7) (b_law6)) (sSeq (sIfS (sNot (sB (sCall (callF 2 f__law_alike) (aCons (sMethC "Shelf" "world" 7 1 f_Shelf_world (aNil)) (aCons (sVar 3) (aNil)))))) (sRet (sC (.bl false))) (sSkip)) (sSeq (sSet 14 (cV (sCall (callF 2 f_beats) (aCons (sVar 3) (aCons (sC (.int 30)) (aNil)))))) (sSeq (sFor (sRg (aCons (sC (.int 29)) (aNil))) (g_law18) (b_law17)) (sSeq (sIfS (sB (sBin opNe (sMethX "Shelf" "look" f_Shelf_look (sCall (callF 2 f_again) (aCons (sVar 6) (aCons (sMethC "Shelf" "deeds" 7 1 f_Shelf_deeds (aNil)) (aNil))))) (sMethC "Shelf" "look" 7 1 f_Shelf_look (aNil)))) (sRet (sC (.bl false))) (sSkip)) (sForget 2 (sForget 3 (sForget 4 (sForget 5 (sForget 6 (sForget 7 (sForget 8 (sForget 9 (sForget 10 (sForget 11 (sForget 13 (sForget 14 (sForget 15 (sForget 16 (sForget 18 (sSkip)))))))))))))))))))))))))
def g_law20 : Gm := gN 2
def b_law : SS := sSeq (sFor (sRg (aCons (sC (.int 4)) (aNil))) (g_law20) (b_law19)) (sRet (sC (.bl true)))
end Dl
namespace Dl
open PySem PySem.Spec PyProof.Rows L2 TL

/-! ### worlds -/
def K5 (k : Nat) : Prop := k ∈ [97, 98, 99, 100, 101]
structure Rul where
  k : Nat
  n : Nat
  many : Int
  beats : Int
  l : Nat
def encR (q : Rul) : D := .tup [.str [q.k], .str [q.n], .int q.many, .int q.beats, .str [q.l]]
structure RulOk (q : Rul) : Prop where
  k : K5 q.k
  n : K5 q.n
  l : K5 q.l
  ne : q.l ≠ q.k
  m1 : 1 ≤ q.many
  m2 : q.many ≤ 2
  b1 : 1 ≤ q.beats
  b2 : q.beats ≤ 4
structure Wld where
  row : List Nat
  bars : List Nat
  rules : List Rul
def encB (bars : List Nat) : List D := bars.map fun (b : Nat) => .int b
def encW (W : Wld) : D := .tup [.str W.row, .tup (encB W.bars), .tup (W.rules.map encR)]
structure WOk (W : Wld) : Prop where
  ne : W.row ≠ []
  len : W.row.length ≤ 12
  k : ∀ k ∈ W.row, K5 k
  bars : W.bars.Sublist (List.range (W.row.length - 1))
  rl : W.rules.length ≤ 5
  r : ∀ q ∈ W.rules, RulOk q
theorem lim12 {n : Nat} (h : n ≤ 1000) : n ≤ LIM := Nat.le_trans h (by decide)
theorem k5_lt {k : Nat} (h : K5 k) : k < 1114112 := by
  simp only [K5, List.mem_cons, List.not_mem_nil, or_false] at h
  omega
theorem is_kind_ok {k : Nat} (h : K5 k) (m : Sto) : f_is_kind [.str [k]] m = .ok (.bl true) m := by
  simp only [K5, List.mem_cons, List.not_mem_nil, or_false] at h
  rcases h with rfl | rfl | rfl | rfl | rfl <;> rfl
theorem enumL_at {l : List D} {k : Nat} {d : D} (h : (enumL 0 l)[k]? = some d) : ∃ x, l[k]? = some x ∧ d = .tup [.int k, x] := by
  rw [enumL_get] at h
  cases e : l[k]? with
  | none => rw [e] at h; cases h
  | some x =>
    rw [e] at h
    refine ⟨x, rfl, ?_⟩
    have h := (Option.some.inj h).symm
    simpa using h
theorem need_row_ok {W : Wld} (h : WOk W) (m : Sto) : f_need_row [.str W.row] m = .ok .non m := by
  have hz : W.row.length ≤ LIM := lim12 (by have := h.len; omega)
  show ofFl (b_need_row [some (.val (.str W.row)), none, none] m) = _
  unfold b_need_row
  simp only [ev_seq, ev_for]
  rw [ev_En (d := .str W.row) (m := m) rfl]
  simp only [itD_s, bindS_ok]
  rw [forL_same]
  · have hne : W.row ≠ [] := h.ne
    have hk : W.row.all (fun x => decide (x < 1114112)) = true := by
      rw [List.all_eq_true]
      intro x hx
      exact decide_eq_true (k5_lt (h.k x hx))
    simp [hk, hne]
  · intro k d hd
    obtain ⟨x, hx, rfl⟩ := enumL_at hd
    rw [List.getElem?_map] at hx
    cases e : W.row[k]? with
    | none => rw [e] at hx; cases hx
    | some c =>
      rw [e] at hx
      cases hx
      have hk : k < W.row.length := (List.getElem?_eq_some_iff.mp e).1
      have hc : K5 c := h.k c (List.mem_of_getElem? e)
      have hlen := h.len
      refine ⟨_, rfl, ?_⟩
      simp only [K5, List.mem_cons, List.not_mem_nil, or_false] at hc
      have h12 : ((k : Int) == 12) = false := by simp; omega
      simp [b_need_row1, h12, hc]
theorem atI_nat {α : Type} {l : List α} {k : Nat} {x : α} (h : l[k]? = some x) : atI l (k : Int) = some x := by
  have hk := (List.getElem?_eq_some_iff.mp h).1
  unfold atI ixN
  rw [if_pos (by omega), if_pos (by omega)]
  simpa using h
theorem encB_get {bars : List Nat} {k : Nat} {d : D} (h : (encB bars)[k]? = some d) : ∃ g, bars[k]? = some g ∧ d = .int g := by
  unfold encB at h
  rw [List.getElem?_map] at h
  cases e : bars[k]? with
  | none => rw [e] at h; cases h
  | some x => rw [e] at h; exact ⟨x, rfl, (Option.some.inj h).symm⟩
theorem encB_of {bars : List Nat} {k g : Nat} (h : bars[k]? = some g) : (encB bars)[k]? = some (.int g) := by
  unfold encB
  rw [List.getElem?_map, h]
  rfl
theorem bars_lt {W : Wld} (h : WOk W) {g : Nat} (hg : g ∈ W.bars) : g < W.row.length - 1 := List.mem_range.mp (h.bars.subset hg)
theorem bars_inc {W : Wld} (h : WOk W) {i : Nat} {a b : Nat} (ha : W.bars[i]? = some a) (hb : W.bars[i + 1]? = some b) : a < b := by
  have p : W.bars.Pairwise (· < ·) := List.Pairwise.sublist h.bars List.pairwise_lt_range
  obtain ⟨h1, rfl⟩ := List.getElem?_eq_some_iff.mp ha
  obtain ⟨h2, rfl⟩ := List.getElem?_eq_some_iff.mp hb
  exact List.pairwise_iff_getElem.mp p i (i + 1) h1 h2 (Nat.lt_succ_self i)
theorem need_bars_ok {W : Wld} (h : WOk W) (m : Sto) : f_need_bars [.str W.row, .tup (encB W.bars)] m = .ok .non m := by
  have hz : W.row.length ≤ LIM := lim12 (by have := h.len; omega)
  show ofFl (b_need_bars [some (.val (.str W.row)), some (.val (.tup (encB W.bars))), none, none] m) = _
  unfold b_need_bars
  simp only [ev_for]
  rw [ev_En (d := .tup (encB W.bars)) (m := m) rfl]
  simp only [itD_t, bindS_ok]
  rw [forL_same]
  · rfl
  · intro k d hd
    obtain ⟨x, hx, rfl⟩ := enumL_at hd
    obtain ⟨g, hg, rfl⟩ := encB_get hx
    have h1 := bars_lt h (List.mem_of_getElem? hg)
    refine ⟨_, rfl, ?_⟩
    have c1 : decide ((g : Int) < (W.row.length : Int) - 1) = true := decide_eq_true (by omega)
    have c0 : decide ((0 : Int) ≤ (g : Int)) = true := decide_eq_true (by omega)
    cases k with
    | zero => simp [b_need_bars1, hz, c1, c0]
    | succ k =>
      have hl : k < W.bars.length := by
        have := (List.getElem?_eq_some_iff.mp hg).1
        omega
      have h2 := bars_inc h (List.getElem?_eq_getElem hl) hg
      have h3 : atI (encB W.bars) (k : Int) = some (.int (W.bars[k] : Nat)) := atI_nat (encB_of (List.getElem?_eq_getElem hl))
      have c2 : ¬ g ≤ W.bars[k] := by omega
      have c3 : decide ((0 : Int) < ((k + 1 : Nat) : Int)) = true := decide_eq_true (by omega)
      simp [b_need_bars1, hz, c1, c0, c2, c3, h3]
theorem is_rule_ok {q : Rul} (h : RulOk q) (m : Sto) : f_is_rule [encR q] m = .ok (.bl true) m := by
  show ofFl (b_is_rule [some (.val (encR q))] m) = _
  unfold b_is_rule encR
  have e1 := h.m1; have e2 := h.m2; have e3 := h.b1; have e4 := h.b2; have e5 := h.ne
  have k1 := k5_lt h.k; have k2 := k5_lt h.l
  have a1 : atI [D.str [q.k], .str [q.n], .int q.many, .int q.beats, .str [q.l]] 1 = some (.str [q.n]) := rfl
  have a2 : atI [D.str [q.k], .str [q.n], .int q.many, .int q.beats, .str [q.l]] 2 = some (.int q.many) := rfl
  have a3 : atI [D.str [q.k], .str [q.n], .int q.many, .int q.beats, .str [q.l]] 3 = some (.int q.beats) := rfl
  have a4 : atI [D.str [q.k], .str [q.n], .int q.many, .int q.beats, .str [q.l]] 4 = some (.str [q.l]) := rfl
  simp [a1, a2, a3, a4, is_kind_ok h.k, is_kind_ok h.n, is_kind_ok h.l, e1, e2, e3, e4, e5, k1, k2]
theorem need_rules_ok {W : Wld} (h : WOk W) (m : Sto) : f_need_rules [.tup (W.rules.map encR)] m = .ok .non m := by
  show ofFl (b_need_rules [some (.val (.tup (W.rules.map encR))), none, none] m) = _
  unfold b_need_rules
  simp only [ev_for]
  rw [ev_En (d := .tup (W.rules.map encR)) (m := m) rfl]
  simp only [itD_t, bindS_ok]
  rw [forL_same]
  · rfl
  · intro k d hd
    obtain ⟨x, hx, rfl⟩ := enumL_at hd
    rw [List.getElem?_map] at hx
    cases e : W.rules[k]? with
    | none => rw [e] at hx; cases hx
    | some q =>
      rw [e] at hx
      cases hx
      have hk : k < W.rules.length := (List.getElem?_eq_some_iff.mp e).1
      have hq := h.r q (List.mem_of_getElem? e)
      have hlen := h.rl
      refine ⟨_, rfl, ?_⟩
      have h5 : ((k : Int) == 5) = false := by simp; omega
      simp [b_need_rules1, h5, is_rule_ok hq]
theorem need_world_ok {W : Wld} (h : WOk W) (m : Sto) : f_need_world [encW W] m = .ok .non m := by
  show ofFl (b_need_world [some (.val (encW W)), none, none, none] m) = _
  unfold b_need_world encW
  simp [need_row_ok h, need_bars_ok h, need_rules_ok h]
end Dl
namespace Dl
open PySem PySem.Spec PyProof.Rows L2 TL

/-! ### small things -/
theorem joinL_nil : ∀ ps : List (List Nat), joinL [] ps = ps.flatten
  | [] => rfl
  | [p] => by simp [joinL]
  | p :: q :: r => by
    show p ++ ([] ++ joinL [] (q :: r)) = _
    rw [joinL_nil (q :: r)]
    rfl
theorem joinD_ok {a : List Nat} {ps : List (List Nat)} {m : Sto} (h : (ps.map List.length).sum + ps.length * a.length ≤ 1000) : joinD a ps m = .ok (.str (joinL a ps)) m := if_pos (lim12 h)
@[simp] theorem join_l {a : List Nat} {l : List D} {m : Sto} : fJoin (.str a) [.lst l] m = (match strsD l with | some ps => joinD a ps m | none => .bad) := rfl
@[simp] theorem join_t {a : List Nat} {l : List D} {m : Sto} : fJoin (.str a) [.tup l] m = (match strsD l with | some ps => joinD a ps m | none => .bad) := rfl
theorem in_bars (bars : List Nat) (k : Nat) : inD (.int (k : Nat)) (.tup (encB bars)) = some (decide (k ∈ bars)) := by
  have h1 : (encB bars).all flatD = true := by
    rw [List.all_eq_true]
    intro x hx
    obtain ⟨g, _, rfl⟩ := List.mem_map.mp hx
    rfl
  have h2 : ((encB bars).any fun y => eqD y (.int (k : Nat))) = decide (k ∈ bars) := by
    induction bars with
    | nil => rfl
    | cons b r ih =>
      have ih := ih (by
        rw [List.all_eq_true] at h1 ⊢
        exact fun x hx => h1 x (List.mem_cons_of_mem _ hx))
      show (eqD (.int (b : Nat)) (.int (k : Nat)) || (encB r).any fun y => eqD y (.int (k : Nat))) = _
      rw [ih, eqD_int]
      by_cases e : k = b
      · subst e; simp
      · have e2 : ((b : Int) == (k : Int)) = false := by simp; omega
        simp [e2, e]
  show (if flatD (.int (k : Nat)) = true ∧ (encB bars).all flatD = true then some ((encB bars).any fun y => eqD y (.int (k : Nat))) else none) = _
  rw [if_pos ⟨rfl, h1⟩, h2]
theorem in_barsL (bars : List Nat) (k : Nat) : inD (.int (k : Nat)) (.lst (encB bars)) = some (decide (k ∈ bars)) := in_bars bars k
theorem seq_nx {a b : SS} {r r1 : Env} {m m1 : Sto} (h : a r m = .nx r1 m1) : sSeq a b r m = b r1 m1 := by
  rw [ev_seq, h]
/-- what stands at a place of a row's signs -/
theorem str_at {row : List Nat} {k : Nat} {d : D} (h : (row.map fun c => D.str [c])[k]? = some d) : ∃ c, row[k]? = some c ∧ d = .str [c] := by
  rw [List.getElem?_map] at h
  cases e : row[k]? with
  | none => rw [e] at h; cases h
  | some c => rw [e] at h; exact ⟨c, rfl, (Option.some.inj h).symm⟩
theorem rangeL_get {i : Int} {n k : Nat} {d : D} (h : (rangeL i n)[k]? = some d) : k < n ∧ d = .int (i + k) := by
  unfold rangeL at h
  rw [List.getElem?_map] at h
  cases e : (List.range n)[k]? with
  | none => rw [e] at h; cases h
  | some x =>
    rw [e] at h
    have h := (Option.some.inj h).symm
    have hk : k < n := by
      have := (List.getElem?_eq_some_iff.mp e).1
      simpa using this
    rw [List.getElem?_range hk] at e
    cases e
    exact ⟨hk, h⟩
theorem rangeL_length {i : Int} {n : Nat} : (rangeL i n).length = n := by simp [rangeL]
theorem ix_str {z : List Nat} {k c : Nat} (h : z[k]? = some c) (hz : z.length ≤ LIM) : ixD (.str z) (.int (k : Nat)) = some (.str [c]) := by
  show (if z.length ≤ LIM then (atI z (k : Nat)).map fun c => D.str [c] else none) = _
  rw [if_pos hz, atI_nat h]
  rfl
theorem cut_take {α : Type} {l : List α} {n : Nat} (hn : n ≤ l.length) : cutL l none (some (n : Int)) = l.take n := by
  have h1 : HT.sIx l.length 0 none = 0 := rfl
  have h2 : HT.sIx l.length l.length (some (n : Int)) = n := by
    have hneg : ¬ ((n : Int) < 0) := by omega
    simp only [HT.sIx, if_neg hneg]
    simp
    omega
  unfold cutL
  rw [h1, h2]
  simp
theorem cut_drop {α : Type} {l : List α} {n : Nat} (hn : n ≤ l.length) : cutL l (some (n : Int)) none = l.drop n := by
  have h1 : HT.sIx l.length l.length none = l.length := rfl
  have h2 : HT.sIx l.length 0 (some (n : Int)) = n := by
    have hneg : ¬ ((n : Int) < 0) := by omega
    simp only [HT.sIx, if_neg hneg]
    simp
    omega
  unfold cutL
  rw [h1, h2]
  rw [List.take_of_length_le (by simp)]
end Dl
namespace Dl
open PySem PySem.Spec PyProof.Rows L2 TL

/-! ### worlds drawn -/
/-- a rule's kinds are among the first -/
structure RIn (kn : Nat) (q : Rul) : Prop where
  k : 97 ≤ q.k ∧ q.k < 97 + kn
  n : 97 ≤ q.n ∧ q.n < 97 + kn
  l : 97 ≤ q.l ∧ q.l < 97 + max 2 kn
structure WIs (jars kinds many : Nat) (W : Wld) : Prop where
  ne : W.row ≠ []
  len : W.row.length ≤ jars
  k : ∀ k ∈ W.row, 97 ≤ k ∧ k < 97 + kinds
  bars : W.bars.Sublist (List.range (W.row.length - 1))
  rl : W.rules.length ≤ many
  r : ∀ q ∈ W.rules, RulOk q ∧ RIn kinds q
theorem k5_of {k n : Nat} (hn : n ≤ 5) (h : 97 ≤ k ∧ k < 97 + n) : K5 k := by
  unfold K5
  simp only [List.mem_cons, List.not_mem_nil, or_false]
  omega
theorem WIs.ok {jars kinds many : Nat} {W : Wld} (h : WIs jars kinds many W) (h1 : jars ≤ 12) (h2 : kinds ≤ 5) (h3 : many ≤ 5) : WOk W :=
  ⟨h.ne, Nat.le_trans h.len h1, fun k hk => k5_of h2 (h.k k hk), h.bars, Nat.le_trans h.rl h3, fun q hq => (h.r q hq).1⟩
theorem L5_at {v : Int} {n : Nat} (h0 : 0 ≤ v) (h1 : v < n) (hn : n ≤ 5) : ([97, 98, 99, 100, 101] : List Nat)[v.toNat]? = some (97 + v.toNat) := by
  have : v = 0 ∨ v = 1 ∨ v = 2 ∨ v = 3 ∨ v = 4 := by omega
  rcases this with rfl | rfl | rfl | rfl | rfl <;> rfl
theorem ix5 {v : Int} {n : Nat} (h0 : 0 ≤ v) (h1 : v < n) (hn : n ≤ 5) : ixD (.str [97, 98, 99, 100, 101]) (.int v) = some (.str [97 + v.toNat]) := by
  have e : v = ((v.toNat : Nat) : Int) := by omega
  have h := L5_at h0 h1 hn
  generalize v.toNat = k at e h ⊢
  subst e
  exact ix_str (by simpa using h) (by decide)
theorem strike_eval {L : List Nat} {i j l : Nat} {fa fb fd : SE} {g : SS} {r : Env} {m m1 m2 m3 : Sto} {k k2 : Int} {c c2 : Nat} {y : D} (h1 : fa r m = .ok (.int k) m1) (h2 : 0 ≤ k) (h3 : L[k.toNat]? = some c) (h4 : fb r m1 = .ok y m2)
    (h5 : fd ((r.set i (some (.val (.str [c])))).set j (some (.val y))) m2 = .ok (.int k2) m3) (h6 : 0 ≤ k2) (h7 : (L.filter (· != c))[k2.toNat]? = some c2) : sStrike L i j l fa fb fd g r m = g (((r.set i (some (.val (.str [c])))).set j (some (.val y))).set l (some (.val (.str [c2])))) m3 := by
  unfold sStrike
  rw [h1]
  simp only [bindS_ok]
  rw [if_pos h2, h3]
  simp only [h4, bindS_ok, h5]
  rw [if_pos h6]
  rw [h7]
theorem later_at {c kn : Nat} (hc : 97 ≤ c ∧ c < 97 + kn) (hk : kn ≤ 5) {v : Int} (h0 : 0 ≤ v) (h1 : v < max 1 ((kn : Int) - 1)) : ∃ c2, (([97, 98, 99, 100, 101] : List Nat).filter (· != c))[v.toNat]? = some c2 ∧ K5 c2 ∧ c2 ≠ c ∧ 97 ≤ c2 ∧ c2 < 97 + max 2 kn := by
  have hv : v = 0 ∨ v = 1 ∨ v = 2 ∨ v = 3 := by omega
  have hcc : c = 97 ∨ c = 98 ∨ c = 99 ∨ c = 100 ∨ c = 101 := by omega
  rcases hcc with rfl | rfl | rfl | rfl | rfl <;> rcases hv with rfl | rfl | rfl | rfl <;> exact ⟨_, rfl, by unfold K5; decide, by decide, by decide, by omega⟩
theorem joinD_ok2 {ps : List (List Nat)} {m : Sto} (h : (ps.map List.length).sum ≤ 1000) : joinD [] ps m = .ok (.str ps.flatten) m := by
  rw [joinD_ok (by simpa using h), joinL_nil]
theorem sum_ones (row : List Nat) : ((row.map fun c => [c]).map List.length).sum = row.length := by
  induction row with
  | nil => rfl
  | cons a r ih =>
    simp only [List.map_cons, List.sum_cons, List.length_cons, List.length_nil, ih]
    omega
theorem flat_ones (row : List Nat) : (row.map fun c => [c]).flatten = row := by
  induction row with
  | nil => rfl
  | cons a r ih =>
    simp only [List.map_cons, List.flatten_cons, ih]
    rfl
end Dl
namespace Dl
open PySem PySem.Spec PyProof.Rows L2 TL

/-! ### worlds drawn by the law -/
theorem row_comp {jars kinds many : Int} {kn : Nat} (hk0 : 1 ≤ kn) (hk : kn ≤ 5) (ek : kinds = kn) {c4 c6 : Option Cell} (l : List D) (m : Sto) (hm : Good ρ m) :
    ∃ (ks : List Nat) (m' : Sto), lcL g__law_world1 sYes f__law_world2 [some (.val (.obj 0)), some (.val (.int jars)), some (.val (.int kinds)), some (.val (.int many)), c4, none, c6, none] l m = .ok (ks.map fun c => D.str [c]) m' ∧ ks.length = l.length ∧ (∀ k ∈ ks, 97 ≤ k ∧ k < 97 + kn) ∧ Good ρ m' := by
  obtain ⟨ys, m', e, el, hp, hg⟩ := lcL_draw (g := g__law_world1) (t := sYes) (f := f__law_world2) (r0 := [some (.val (.obj 0)), some (.val (.int jars)), some (.val (.int kinds)), some (.val (.int many)), c4, none, c6, none]) (Good ρ) (fun _ y => ∃ k : Nat, y = .str [k] ∧ 97 ≤ k ∧ k < 97 + kn) l m hm fun d hd m hm => by
    obtain ⟨v, m', e, h0, h1, hg⟩ := draw hm (k := kinds) (by omega) (by omega)
    have hix := ix5 h0 (n := kn) (by omega) hk
    refine ⟨_, .str [97 + v.toNat], m', rfl, rfl, ?_, ⟨97 + v.toNat, rfl, by omega, by omega⟩, hg⟩
    simp [f__law_world2, f__law_next, e, hix]
  obtain ⟨ks, rfl, hks⟩ : ∃ ks : List Nat, ys = ks.map (fun c => D.str [c]) ∧ ∀ k ∈ ks, 97 ≤ k ∧ k < 97 + kn := by
    have : ∀ (l' ys' : List D), ys'.length = l'.length → (∀ (k : Nat) (d y : D), l'[k]? = some d → ys'[k]? = some y → ∃ k : Nat, y = .str [k] ∧ 97 ≤ k ∧ k < 97 + kn) → ∃ ks : List Nat, ys' = ks.map (fun c => D.str [c]) ∧ ∀ k ∈ ks, 97 ≤ k ∧ k < 97 + kn := by
      intro l'
      induction l' with
      | nil =>
        intro ys' hl _
        have : ys' = [] := List.eq_nil_of_length_eq_zero hl
        exact ⟨[], by simp [this], by simp⟩
      | cons d l' ih =>
        intro ys' hl hp
        cases ys' with
        | nil => simp at hl
        | cons y ys' =>
          obtain ⟨k, rfl, hk⟩ := hp 0 d y rfl rfl
          obtain ⟨ks, rfl, hks⟩ := ih ys' (by simpa using hl) fun k d y h1 h2 => hp (k + 1) d y (by simpa using h1) (by simpa using h2)
          refine ⟨k :: ks, rfl, fun x hx => ?_⟩
          rcases List.mem_cons.mp hx with rfl | hx
          · exact hk
          · exact hks x hx
    exact this l ys el hp
  exact ⟨ks, m', e, by simpa using el, hks, hg⟩
theorem bars_comp {c0 c1 c2 c3 c4 c6 : Option Cell} (h0 : c0 = some (.val (.obj 0))) (n : Nat) (m : Sto) (hm : Good ρ m) :
    ∃ (bs : List Nat) (m' : Sto), lcL g__law_world3 t__law_world4 f__law_world5 [c0, c1, c2, c3, c4, none, c6, none] (rangeL 0 n) m = .ok (encB bs) m' ∧ bs.Sublist (List.range n) ∧ Good ρ m' := by
  subst h0
  obtain ⟨ys, m', e, sl, hg⟩ := lcL_some (g := g__law_world3) (t := t__law_world4) (f := f__law_world5) (r0 := [some (.val (.obj 0)), c1, c2, c3, c4, none, c6, none]) (Good ρ) (rangeL 0 n) m hm fun d hd m hm => by
    obtain ⟨v, m', e, h0, h1, hg⟩ := draw hm (k := 5) (by decide) (by decide)
    refine ⟨_, (v == 0), m', rfl, ?_, hg, rfl⟩
    simp [t__law_world4, f__law_next, e]
  obtain ⟨bs, hb, rfl⟩ := List.sublist_map_iff.mp (show ys.Sublist ((List.range n).map fun k : Nat => D.int (0 + k)) from sl)
  refine ⟨bs, m', ?_, hb, hg⟩
  rw [e]
  simp [encB]
theorem rule_turn {kinds many : Int} {kn : Nat} (hk0 : 1 ≤ kn) (hk : kn ≤ 5) (ek : kinds = kn) {acc : List D} (hl : acc.length ≤ 100) {d : D} (m : Sto) (hm : Good ρ m) :
    ∃ (q : Rul) (m' : Sto), b__law_rules1 [some (.val (.obj 0)), some (.val (.int kinds)), some (.val (.int many)), some (.lst acc), some (.val d), none, none, none] m = .nx [some (.val (.obj 0)), some (.val (.int kinds)), some (.val (.int many)), some (.lst (acc ++ [encR q])), none, none, none, none] m' ∧ (RulOk q ∧ RIn kn q) ∧ Good ρ m' := by
  obtain ⟨v1, m1, e1, a1, b1, g1⟩ := draw hm (k := kinds) (by omega) (by omega)
  obtain ⟨v2, m2, e2, a2, b2, g2⟩ := draw g1 (k := kinds) (by omega) (by omega)
  obtain ⟨v3, m3, e3, a3, b3, g3⟩ := draw g2 (k := max 1 (kinds - 1)) (by omega) (by omega)
  obtain ⟨v4, m4, e4, a4, b4, g4⟩ := draw g3 (k := 3) (by decide) (by decide)
  obtain ⟨v5, m5, e5, a5, b5, g5⟩ := draw g4 (k := 4) (by decide) (by decide)
  obtain ⟨v6, m6, e6, a6, b6, g6⟩ := draw g5 (k := 2) (by decide) (by decide)
  have hc : K5 (97 + v1.toNat) := k5_of hk (by omega)
  have hn : K5 (97 + v2.toNat) := k5_of hk (by omega)
  obtain ⟨c2, hc2, k2, ne2, r1, r2⟩ := later_at (c := 97 + v1.toNat) (kn := kn) (by omega) hk a3 (by rw [← ek]; exact b3)
  have hlt : acc.length < LIM := Nat.lt_of_le_of_lt hl (by decide)
  have h5 : (5 : Nat) ≤ LIM := by decide
  have hd : opDiv (.int v4) (.int 2) m4 = .ok (.int (v4 / 2)) m4 := by
    rw [div_int]
    exact if_pos ⟨by decide, by decide⟩
  have hmul : opMul (.int v5) (.int v6) m6 = .ok (.int (v5 * v6)) m6 := by
    show (if (-(2 ^ 64) < v5 ∧ v5 < 2 ^ 64) ∨ (-(2 ^ 64) < v6 ∧ v6 < 2 ^ 64) then R.ok (D.int (v5 * v6)) m6 else R.bad) = _
    exact if_pos (.inr (by omega))
  refine ⟨⟨97 + v1.toNat, 97 + v2.toNat, 1 + v4 / 2, 1 + v5 * v6, c2⟩, m6, ?_, ⟨⟨hc, hn, k2, ne2, by show 1 ≤ 1 + v4 / 2; omega, by show 1 + v4 / 2 ≤ 2; omega, ?_, ?_⟩, ⟨by show 97 ≤ 97 + v1.toNat ∧ 97 + v1.toNat < 97 + kn; omega, by show 97 ≤ 97 + v2.toNat ∧ 97 + v2.toNat < 97 + kn; omega, ⟨r1, r2⟩⟩⟩, g6⟩
  · unfold b__law_rules1
    rw [strike_eval (k := v1) (c := 97 + v1.toNat) (m1 := m1) (y := .str [97 + v2.toNat]) (m2 := m2) (k2 := v3) (m3 := m3) (c2 := c2) (by simp [f__law_next, e1]) a1 (L5_at a1 (n := kn) (by omega) hk) (by
      have := ix5 a2 (n := kn) (by omega) hk
      simp [f__law_next, e2, this]) (by simp [f__law_next, e3]) a3 hc2]
    simp [f__law_next, e4, e5, e6, hd, hmul, h5, hlt, encR]
  · show 1 ≤ 1 + v5 * v6
    have : 0 ≤ v5 * v6 := Int.mul_nonneg a5 a6
    omega
  · show 1 + v5 * v6 ≤ 4
    have : v6 = 0 ∨ v6 = 1 := by omega
    rcases this with rfl | rfl <;> omega
theorem rules_loop {kinds many : Int} {kn : Nat} (hk0 : 1 ≤ kn) (hk : kn ≤ 5) (ek : kinds = kn) : ∀ (l : List D) (acc : List Rul) (m : Sto), Good ρ m → acc.length + l.length ≤ 100 → (∀ q ∈ acc, RulOk q ∧ RIn kn q) →
    ∃ (rs : List Rul) (m' : Sto), forL g__law_rules2 b__law_rules1 l [some (.val (.obj 0)), some (.val (.int kinds)), some (.val (.int many)), some (.lst (acc.map encR)), none, none, none, none] m = .nx [some (.val (.obj 0)), some (.val (.int kinds)), some (.val (.int many)), some (.lst (rs.map encR)), none, none, none, none] m' ∧ rs.length = acc.length + l.length ∧ (∀ q ∈ rs, RulOk q ∧ RIn kn q) ∧ Good ρ m'
  | [], acc, m, hm, _, hq => ⟨acc, m, rfl, rfl, hq, hm⟩
  | d :: l, acc, m, hm, hl, hq => by
    simp only [List.length_cons] at hl
    obtain ⟨q, m1, e, okq, g1⟩ := rule_turn (many := many) hk0 hk ek (acc := acc.map encR) (by simp; omega) (d := d) m hm
    obtain ⟨rs, m2, e2, l2, q2, g2⟩ := rules_loop hk0 hk ek l (acc ++ [q]) m1 g1 (by simp; omega) (fun x hx => (List.mem_append.mp hx).elim (hq x) fun z => by rw [List.mem_singleton.mp z]; exact okq)
    refine ⟨rs, m2, ?_, by rw [l2]; simp; omega, q2, g2⟩
    rw [forL_step (r' := [some (.val (.obj 0)), some (.val (.int kinds)), some (.val (.int many)), some (.lst (acc.map encR)), some (.val d), none, none, none]) rfl e]
    simpa using e2
theorem rules_ok {kinds many : Int} {kn mn : Nat} (hk0 : 1 ≤ kn) (hk : kn ≤ 5) (ek : kinds = kn) (hmn : mn ≤ 50) (em : many = mn) (m : Sto) (hm : Good ρ m) :
    ∃ (rs : List Rul) (m' : Sto), f__law_rules [.obj 0, .int kinds, .int many] m = .ok (.tup (rs.map encR)) m' ∧ rs.length ≤ mn ∧ (∀ q ∈ rs, RulOk q ∧ RIn kn q) ∧ Good ρ m' := by
  obtain ⟨v, m1, e, a, b, g⟩ := draw hm (k := many + 1) (by omega) (by omega)
  obtain ⟨rs, m2, e2, l2, q2, g2⟩ := rules_loop (many := many) hk0 hk ek (rangeL 0 v.toNat) [] m1 g (by simp [rangeL_length]; omega) (by simp)
  refine ⟨rs, m2, ?_, by rw [l2]; simp [rangeL_length]; omega, q2, g2⟩
  show ofFl (b__law_rules [some (.val (.obj 0)), some (.val (.int kinds)), some (.val (.int many)), none, none, none, none, none] m) = _
  unfold b__law_rules
  have h0 : (0 : Nat) ≤ LIM := by decide
  rw [seq_nx (r1 := [some (.val (.obj 0)), some (.val (.int kinds)), some (.val (.int many)), some (.lst []), none, none, none, none]) (m1 := m) (by simp [h0])]
  have hin : inR v = true := decide_eq_true (by omega)
  rw [seq_nx (r1 := [some (.val (.obj 0)), some (.val (.int kinds)), some (.val (.int many)), some (.lst (rs.map encR)), none, none, none, none]) (m1 := m2) (by
    rw [ev_for, ev_Rg (i := v) (m' := m1) (by simp [f__law_next, e]), if_pos hin, bindS_ok]
    exact e2)]
  simp
theorem world_ok {jars kinds many : Int} {jn kn mn : Nat} (hj0 : 1 ≤ jn) (hj : jn ≤ 500) (ej : jars = jn) (hk0 : 1 ≤ kn) (hk : kn ≤ 5) (ek : kinds = kn) (hmn : mn ≤ 50) (em : many = mn) (m : Sto) (hm : Good ρ m) :
    ∃ (W : Wld) (m' : Sto), f__law_world [.obj 0, .int jars, .int kinds, .int many] m = .ok (encW W) m' ∧ WIs jn kn mn W ∧ Good ρ m' := by
  obtain ⟨v, m1, e1, a1, b1, g1⟩ := draw hm (k := jars) (by omega) (by omega)
  obtain ⟨row, m2, e2, l2, k2, g2⟩ := row_comp (jars := jars) (many := many) hk0 hk ek (c4 := none) (c6 := none) (rangeL 0 (1 + v).toNat) m1 g1
  rw [rangeL_length] at l2
  obtain ⟨bs, m3, e3, s3, g3⟩ := bars_comp (c0 := some (.val (.obj 0))) (c1 := some (.val (.int jars))) (c2 := some (.val (.int kinds))) (c3 := some (.val (.int many))) (c4 := some (.val (.str row))) (c6 := none) rfl (row.length - 1) m2 g2
  obtain ⟨rs, m4, e4, l4, q4, g4⟩ := rules_ok hk0 hk ek hmn em m3 g3
  refine ⟨⟨row, bs, rs⟩, m4, ?_, ⟨?_, ?_, k2, s3, l4, q4⟩, g4⟩
  · show ofFl (b__law_world [some (.val (.obj 0)), some (.val (.int jars)), some (.val (.int kinds)), some (.val (.int many)), none, none, none, none] m) = _
    unfold b__law_world
    have hin : inR (1 + v) = true := decide_eq_true (by omega)
    have hz : row.length ≤ LIM := lim12 (by omega)
    have hz1 : (1 + v).toNat ≤ LIM := lim12 (by omega)
    have hz2 : row.length - 1 ≤ LIM := lim12 (by omega)
    have hin2 : inR ((row.length : Int) - 1) = true := decide_eq_true (by omega)
    have e5 : ((row.length : Int) - 1).toNat = row.length - 1 := by omega
    have hmap : row.map (fun c => D.str [c]) = (row.map fun c => [c]).map D.str := by simp
    have hsum : ((row.map fun c => [c]).map List.length).sum ≤ 1000 := by
      have := sum_ones row
      omega
    have hfl := flat_ones row
    rw [seq_nx (r1 := [some (.val (.obj 0)), some (.val (.int jars)), some (.val (.int kinds)), some (.val (.int many)), some (.val (.str row)), none, none, none]) (m1 := m2) (by
      simp only [ev_set, ev_cV, ev_meth, ev_c, bindR_ok, kD_str, if_true, ev_cons, ev_Lc]
      rw [ev_Rg (i := 1 + v) (m' := m1) (by simp [f__law_next, e1]), if_pos hin]
      simp only [bindR_ok, rangeL_length]
      rw [if_pos ⟨hz1, by simp⟩]
      simp only [wipeE_cons, wipeE_nil, List.set_cons_succ, List.set_cons_zero]
      rw [e2, hmap]
      simp only [bindR_ok, ev_nil, join_l, strsD_map, joinD_ok2 hsum, hfl, bindS_ok, List.set_cons_succ, List.set_cons_zero])]
    rw [seq_nx (r1 := [some (.val (.obj 0)), some (.val (.int jars)), some (.val (.int kinds)), some (.val (.int many)), some (.val (.str row)), none, some (.val (.tup (encB bs))), none]) (m1 := m3) (by
      simp only [ev_set, ev_cV, ev_call, ev_cons, ev_nil, ev_Lc]
      rw [ev_Rg (i := (row.length : Int) - 1) (m' := m2) (by simp [hz]), if_pos hin2]
      simp only [bindR_ok, rangeL_length, e5]
      rw [if_pos ⟨hz2, by simp⟩]
      simp only [wipeE_cons, wipeE_nil, List.set_cons_succ, List.set_cons_zero]
      rw [e3]
      simp)]
    have h3 : (3 : Nat) ≤ LIM := by decide
    simp [e4, h3, encW]
  · intro e
    have l2 : row.length = (1 + v).toNat := l2
    have e : row = [] := e
    rw [e] at l2
    simp at l2
    omega
  · show row.length ≤ jn
    omega
end Dl
namespace Dl
open PySem PySem.Spec PyProof.Rows L2 TL

/-! ### a beat -/
def nearW (row bars : List Nat) (p : Nat) : List Nat :=
  (if 0 < p ∧ p - 1 ∉ bars then (row[p - 1]?).toList else []) ++ (if p + 1 < row.length ∧ p ∉ bars then (row[p + 1]?).toList else [])
def encS (l : List Nat) : List D := l.map fun k => .str [k]
theorem beside_ok {row bars : List Nat} {p : Nat} (hp : p < row.length) (hz : row.length ≤ 1000) (m : Sto) : f_beside [.str row, .tup (encB bars), .int p] m = .ok (.lst (encS (nearW row bars p))) m := by
  have hz' : row.length ≤ LIM := lim12 hz
  have h0 : (0 : Nat) ≤ LIM := by decide
  have h1 : (0 : Nat) < LIM := by decide
  have h2 : (1 : Nat) < LIM := by decide
  show ofFl (b_beside [some (.val (.str row)), some (.val (.tup (encB bars))), some (.val (.int p)), none] m) = _
  unfold b_beside
  rw [seq_nx (r1 := [some (.val (.str row)), some (.val (.tup (encB bars))), some (.val (.int p)), some (.lst [])]) (m1 := m) (by simp [h0])]
  rw [seq_nx (r1 := [some (.val (.str row)), some (.val (.tup (encB bars))), some (.val (.int p)), some (.lst (encS (if 0 < p ∧ p - 1 ∉ bars then (row[p - 1]?).toList else [])))]) (m1 := m) (by
    cases p with
    | zero => simp [encS]
    | succ q =>
      have e : ((q + 1 : Nat) : Int) - 1 = (q : Nat) := by omega
      have e0 : decide ((0 : Int) < ((q + 1 : Nat) : Int)) = true := decide_eq_true (by omega)
      have hq : q < row.length := by omega
      have ei := ix_str (z := row) (k := q) (List.getElem?_eq_getElem hq) hz'
      have ein := in_bars bars q
      by_cases hb : q ∈ bars
      · simp [-Int.natCast_add, e0, e, ein, hb, encS]
      · simp [-Int.natCast_add, e0, e, ein, hb, ei, encS, h1, hq])]
  have hl : (encS (if 0 < p ∧ p - 1 ∉ bars then (row[p - 1]?).toList else [])).length < LIM := by
    refine Nat.lt_of_le_of_lt ?_ h2
    unfold encS
    rw [List.length_map]
    split
    · cases row[p - 1]? <;> simp
    · simp
  have hl' : (if 0 < p ∧ ¬p - 1 ∈ bars then row[p - 1]?.toList else []).length < LIM := by
    unfold encS at hl
    rw [List.length_map] at hl
    exact hl
  have ein := in_bars bars p
  have e1 : decide ((p : Int) < (row.length : Int) - 1) = decide (p + 1 < row.length) := by
    by_cases h : p + 1 < row.length
    · rw [decide_eq_true h, decide_eq_true (by omega)]
    · rw [decide_eq_false h, decide_eq_false (by omega)]
  rw [seq_nx (r1 := [some (.val (.str row)), some (.val (.tup (encB bars))), some (.val (.int p)), some (.lst (encS (nearW row bars p)))]) (m1 := m) (by
    by_cases hr : p + 1 < row.length
    · have e : ((p : Nat) : Int) + 1 = ((p + 1 : Nat) : Int) := by omega
      have ei := ix_str (z := row) (k := p + 1) (List.getElem?_eq_getElem hr) hz'
      by_cases hb : p ∈ bars
      · simp [e1, hr, ein, hb, nearW, hz']
      · simp only [ev_ifS, ev_And, ev_B, ev_bin, ev_pk, ev_c, ev_call, ev_cons, ev_nil]
        simp [-Int.natCast_add, e1, hr, ein, hb, nearW, hz', e, ei, hl', encS]
    · simp [e1, hr, nearW, hz'])]
  simp
theorem cnt_ok {l : List Nat} {n : Nat} {m : Sto} : fCnt (.lst (encS l)) [.str [n]] m = .ok (.int (l.count n : Nat)) m := by
  have h1 : (encS l).all flatD = true := by
    rw [List.all_eq_true]
    intro x hx
    obtain ⟨g, _, rfl⟩ := List.mem_map.mp hx
    rfl
  have h2 : ∀ l : List Nat, (encS l).countP (fun y => eqD y (.str [n])) = l.count n := by
    intro l
    induction l with
    | nil => rfl
    | cons a r ih =>
      show (D.str [a] :: encS r).countP _ = _
      rw [List.countP_cons, ih, List.count_cons, eqD_str]
      by_cases e : a = n
      · subst e; simp
      · have e2 : ([a] == [n]) = false := by simpa using e
        have e3 : (a == n) = false := by simpa using e
        rw [e2, e3]
  show (if flatD (.str [n]) = true ∧ (encS l).all flatD = true then R.ok (D.int (((encS l).countP fun y => eqD y (.str [n]) : Nat) : Int)) m else .bad) = _
  rw [if_pos ⟨rfl, h1⟩, h2]
@[simp] theorem kD_lst {l : List D} : kD (.lst l) = "list" := rfl
def heldW (row bars : List Nat) (p : Nat) (q : Rul) : Bool := decide (row[p]? = some q.k) && decide (q.many ≤ ((nearW row bars p).count q.n : Nat))
def cntW (row bars : List Nat) (p : Nat) : List Rul → List Int → List Int
  | q :: qs, o :: os => (if heldW row bars p q = true then min q.beats (o + 1) else 0) :: cntW row bars p qs os
  | _, _ => []
def encI (l : List Int) : List D := l.map D.int
theorem counted_in {row bars : List Nat} {p k : Nat} (hk : row[p]? = some k) {m : Sto} {c0 c1 c2 c3 c4 c5 : Option Cell} : ∀ (qs : List Rul) (os acc : List Int), qs.length = os.length → (∀ q ∈ qs, RulOk q) → K5 k → acc.length + qs.length ≤ 100 →
    forL g_counted2 b_counted1 (List.zipWith (fun x y => D.tup [x, y]) (qs.map encR) (encI os)) [c0, c1, c2, c3, c4, c5, some (.val (.str [k])), some (.val (.lst (encS (nearW row bars p)))), some (.lst (encI acc)), none, none, none] m =
      .nx [c0, c1, c2, c3, c4, c5, some (.val (.str [k])), some (.val (.lst (encS (nearW row bars p)))), some (.lst (encI (acc ++ cntW row bars p qs os))), none, none, none] m
  | [], [], acc, _, _, _, _ => by simp [forL_nil, cntW]
  | q :: qs, o :: os, acc, hl, hq, hk5, hz => by
    have okq := hq q (List.mem_cons_self ..)
    have k1 := k5_lt okq.k
    have k2 := k5_lt hk5
    have hlt : acc.length < LIM := Nat.lt_of_le_of_lt (show acc.length ≤ 100 by simp at hz; omega) (by decide)
    have ih := counted_in (bars := bars) hk (m := m) (c0 := c0) (c1 := c1) (c2 := c2) (c3 := c3) (c4 := c4) (c5 := c5) qs os (acc ++ [if heldW row bars p q = true then min q.beats (o + 1) else 0]) (by simpa using hl) (fun x hx => hq x (List.mem_cons_of_mem _ hx)) hk5 (by simp at hz ⊢; omega)
    have a1 : atI [D.str [q.k], .str [q.n], .int q.many, .int q.beats, .str [q.l]] 1 = some (.str [q.n]) := rfl
    have a2 : atI [D.str [q.k], .str [q.n], .int q.many, .int q.beats, .str [q.l]] 2 = some (.int q.many) := rfl
    have a3 : atI [D.str [q.k], .str [q.n], .int q.many, .int q.beats, .str [q.l]] 3 = some (.int q.beats) := rfl
    have hh : heldW row bars p q = (q.k == k && decide (q.many ≤ ((nearW row bars p).count q.n : Nat))) := by
      unfold heldW
      rw [hk]
      congr 1
      by_cases e : q.k = k
      · simp [e]
      · have : ¬ k = q.k := fun z => e z.symm
        simp [e, this]
    show forL g_counted2 b_counted1 (D.tup [encR q, .int o] :: List.zipWith (fun x y => D.tup [x, y]) (qs.map encR) (encI os)) _ m = _
    rw [forL_step (r' := [c0, c1, c2, c3, c4, c5, some (.val (.str [k])), some (.val (.lst (encS (nearW row bars p)))), some (.lst (encI acc)), some (.val (encR q)), some (.val (.int o)), none]) (r2 := [c0, c1, c2, c3, c4, c5, some (.val (.str [k])), some (.val (.lst (encS (nearW row bars p)))), some (.lst (encI (acc ++ [if heldW row bars p q = true then min q.beats (o + 1) else 0]))), none, none, none]) (m2 := m) rfl (by
      have hl' : (encI acc).length < LIM := by simpa [encI] using hlt
      unfold b_counted1 encR
      by_cases e : q.k = k
      · subst e
        by_cases e2 : q.many ≤ ((nearW row bars p).count q.n : Nat)
        · simp [a1, a2, a3, k1, cnt_ok, hh, e2, hlt, encI]
        · simp [a1, a2, a3, k1, cnt_ok, hh, e2, hlt, encI]
      · simp [a1, a2, a3, k1, k2, cnt_ok, hh, e, hlt, encI])]
    rw [ih]
    simp [cntW]
def encC (cs : List (List Int)) : List D := cs.map fun c => .tup (encI c)
def cntN (row bars : List Nat) (rules : List Rul) (counts : List (List Int)) (n : Nat) : List (List Int) := (List.range n).map fun p => cntW row bars p rules ((counts[p]?).getD [])
def cntAll (row bars : List Nat) (rules : List Rul) (counts : List (List Int)) : List (List Int) := cntN row bars rules counts row.length
/-- a state: a row, its counts -/
structure SOk (rules : List Rul) (row : List Nat) (counts : List (List Int)) : Prop where
  len : row.length ≤ 12
  k : ∀ k ∈ row, K5 k
  cl : counts.length = row.length
  c : ∀ c ∈ counts, c.length = rules.length
theorem counted_ok {row bars : List Nat} {rules : List Rul} {counts : List (List Int)} (h : SOk rules row counts) (hr : ∀ q ∈ rules, RulOk q) (hl : rules.length ≤ 50) (m : Sto) :
    f_counted [.str row, .tup (encB bars), .tup (rules.map encR), .tup (encC counts)] m = .ok (.lst (encC (cntAll row bars rules counts))) m := by
  have h0 : (0 : Nat) ≤ LIM := by decide
  show ofFl (b_counted [some (.val (.str row)), some (.val (.tup (encB bars))), some (.val (.tup (rules.map encR))), some (.val (.tup (encC counts))), none, none, none, none, none, none, none, none] m) = _
  unfold b_counted
  rw [seq_nx (r1 := [some (.val (.str row)), some (.val (.tup (encB bars))), some (.val (.tup (rules.map encR))), some (.val (.tup (encC counts))), some (.lst []), none, none, none, none, none, none, none]) (m1 := m) (by simp [h0])]
  obtain ⟨r2, m2, e, e1, e2⟩ := forL_inv (g := g_counted4) (b := b_counted3) (fun n r' m' => r' = [some (.val (.str row)), some (.val (.tup (encB bars))), some (.val (.tup (rules.map encR))), some (.val (.tup (encC counts))), some (.lst (encC (cntN row bars rules counts n))), none, none, none, none, none, none, none] ∧ m' = m)
    (enumL 0 (row.map fun c => D.str [c])) 0 [some (.val (.str row)), some (.val (.tup (encB bars))), some (.val (.tup (rules.map encR))), some (.val (.tup (encC counts))), some (.lst []), none, none, none, none, none, none, none] m ⟨rfl, rfl⟩ fun p d r' m' hd ⟨e1, e2⟩ => by
      subst e1 e2
      obtain ⟨x, hx, rfl⟩ := enumL_at hd
      obtain ⟨k, hk, rfl⟩ := str_at hx
      have hp : p < row.length := (List.getElem?_eq_some_iff.mp hk).1
      have hlen := h.len
      have hpc : p < counts.length := by rw [h.cl]; exact hp
      have hc := List.getElem?_eq_getElem hpc
      have hcl : rules.length = counts[p].length := (h.c _ (List.getElem_mem hpc)).symm
      have ha : atI (encC counts) (p : Int) = some (.tup (encI counts[p])) := atI_nat (by unfold encC; rw [List.getElem?_map, hc]; rfl)
      have hb := beside_ok (row := row) (bars := bars) hp (by omega) m'
      have hi := counted_in (row := row) (bars := bars) hk (m := m') (c0 := some (.val (.str row))) (c1 := some (.val (.tup (encB bars)))) (c2 := some (.val (.tup (rules.map encR)))) (c3 := some (.val (.tup (encC counts)))) (c4 := some (.lst (encC (cntN row bars rules counts p)))) (c5 := some (.val (.int (p : Nat)))) rules counts[p] [] hcl hr (h.k k (List.mem_of_getElem? hk)) (by simp; omega)
      have hlt : (encC (cntN row bars rules counts p)).length < LIM := Nat.lt_of_le_of_lt (show _ ≤ 100 by simp [encC, cntN]; omega) (by decide)
      refine ⟨[some (.val (.str row)), some (.val (.tup (encB bars))), some (.val (.tup (rules.map encR))), some (.val (.tup (encC counts))), some (.lst (encC (cntN row bars rules counts (0 + p)))), some (.val (.int (p : Nat))), some (.val (.str [k])), none, none, none, none, none], _, m', rfl, ?_, rfl, rfl⟩
      have e0 : 0 + p = p := Nat.zero_add p
      have e5 : encC (cntN row bars rules counts (p + 1)) = encC (cntN row bars rules counts p) ++ [.tup (encI (cntW row bars p rules counts[p]))] := by
        unfold cntN encC
        rw [List.range_succ, List.map_append, List.map_append, List.map_singleton, List.map_singleton, hc]
        rfl
      rw [e0, e5]
      unfold b_counted3
      rw [seq_nx (r1 := [some (.val (.str row)), some (.val (.tup (encB bars))), some (.val (.tup (rules.map encR))), some (.val (.tup (encC counts))), some (.lst (encC (cntN row bars rules counts p))), some (.val (.int (p : Nat))), some (.val (.str [k])), some (.val (.lst (encS (nearW row bars p)))), none, none, none, none]) (m1 := m') (by simp [hb])]
      rw [seq_nx (r1 := [some (.val (.str row)), some (.val (.tup (encB bars))), some (.val (.tup (rules.map encR))), some (.val (.tup (encC counts))), some (.lst (encC (cntN row bars rules counts p))), some (.val (.int (p : Nat))), some (.val (.str [k])), some (.val (.lst (encS (nearW row bars p)))), some (.lst []), none, none, none]) (m1 := m') (by simp [h0])]
      rw [seq_nx (r1 := [some (.val (.str row)), some (.val (.tup (encB bars))), some (.val (.tup (rules.map encR))), some (.val (.tup (encC counts))), some (.lst (encC (cntN row bars rules counts p))), some (.val (.int (p : Nat))), some (.val (.str [k])), some (.val (.lst (encS (nearW row bars p)))), some (.lst (encI (cntW row bars p rules counts[p]))), none, none, none]) (m1 := m') (by
        rw [ev_for]
        have ez : sZ2 (aCons (sVar 2) (aCons (sBin opIx (sPk 3) (sPk 5)) (aNil))) [some (.val (.str row)), some (.val (.tup (encB bars))), some (.val (.tup (rules.map encR))), some (.val (.tup (encC counts))), some (.lst (encC (cntN row bars rules counts p))), some (.val (.int (p : Nat))), some (.val (.str [k])), some (.val (.lst (encS (nearW row bars p)))), some (.lst []), none, none, none] m' = .ok (List.zipWith (fun x y => D.tup [x, y]) (rules.map encR) (encI counts[p])) m' := by
          unfold sZ2
          simp [ha]
        rw [ez, bindS_ok]
        exact hi)]
      simp [hlt]
  rw [Nat.zero_add] at e1
  have el : (enumL 0 (row.map fun c => D.str [c])).length = row.length := by rw [enumL_length, List.length_map]
  rw [el] at e1
  subst e1 e2
  rw [seq_nx (r1 := [some (.val (.str row)), some (.val (.tup (encB bars))), some (.val (.tup (rules.map encR))), some (.val (.tup (encC counts))), some (.lst (encC (cntAll row bars rules counts))), none, none, none, none, none, none, none]) (m1 := m2) (by
    rw [ev_for, ev_En (d := .str row) (m := m2) rfl]
    simp only [itD_s, bindS_ok]
    exact e)]
  simp
end Dl
namespace Dl
open PySem PySem.Spec PyProof.Rows L2 TL

/-! ### a beat's turns -/
def ripeW : List Rul → List Int → List Nat
  | q :: qs, c :: cs => if c = q.beats then q.l :: ripeW qs cs else ripeW qs cs
  | _, _ => []
def turnK (rules : List Rul) (k : Nat) (cs : List Int) : Nat := (ripeW rules cs).headD k
def turnC (rules : List Rul) (cs : List Int) : List Int := if ripeW rules cs = [] then cs else List.replicate rules.length 0
theorem ripe_comp {c0 c1 c2 c3 c4 c5 c6 c7 : Option Cell} {m : Sto} : ∀ (qs : List Rul) (cs : List Int), qs.length = cs.length →
    lcL g_turned1 t_turned2 f_turned3 [c0, c1, c2, c3, c4, c5, c6, c7, none, none] (List.zipWith (fun x y => D.tup [x, y]) (qs.map encR) (encI cs)) m = .ok (encS (ripeW qs cs)) m
  | [], [], _ => rfl
  | q :: qs, c :: cs, hl => by
    have ih := ripe_comp (c0 := c0) (c1 := c1) (c2 := c2) (c3 := c3) (c4 := c4) (c5 := c5) (c6 := c6) (c7 := c7) (m := m) qs cs (by simpa using hl)
    have a3 : atI [D.str [q.k], .str [q.n], .int q.many, .int q.beats, .str [q.l]] 3 = some (.int q.beats) := rfl
    have a4 : atI [D.str [q.k], .str [q.n], .int q.many, .int q.beats, .str [q.l]] 4 = some (.str [q.l]) := rfl
    show lcL g_turned1 t_turned2 f_turned3 _ (D.tup [encR q, .int c] :: List.zipWith (fun x y => D.tup [x, y]) (qs.map encR) (encI cs)) m = _
    have hg : g_turned1 (D.tup [encR q, .int c]) [c0, c1, c2, c3, c4, c5, c6, c7, none, none] = some [c0, c1, c2, c3, c4, c5, c6, c7, some (.val (encR q)), some (.val (.int c))] := rfl
    have ht : t_turned2 [c0, c1, c2, c3, c4, c5, c6, c7, some (.val (encR q)), some (.val (.int c))] m = .ok (c == q.beats) m := by simp [t_turned2, encR, a3]
    have hf : f_turned3 [c0, c1, c2, c3, c4, c5, c6, c7, some (.val (encR q)), some (.val (.int c))] m = .ok (.str [q.l]) m := by simp [f_turned3, encR, a4]
    unfold lcL
    rw [hg]
    by_cases e : c = q.beats
    · subst e
      simp [ht, hf, ih, ripeW, encS]
    · have e2 : (c == q.beats) = false := by simpa using e
      simp [ht, ih, ripeW, e, e2]
theorem ne_nil {L : List Nat} (h : ∀ k ∈ L, k < 1114112) {m : Sto} : opNe (.lst (encS L)) (.lst []) m = .ok (.bl (!L.isEmpty)) m := by
  have h1 : okN 60 (.lst (encS L)) = true := by
    rw [okN_lst, List.all_eq_true]
    intro x hx
    obtain ⟨c, hc, rfl⟩ := List.mem_map.mp hx
    have := h c hc
    simp [this]
  have h2 : okN 60 (.lst []) = true := by simp
  have h3 : eqD (.lst (encS L)) (.lst []) = L.isEmpty := by cases L <;> rfl
  rw [ev_ne, if_pos ⟨h1, h2⟩, h3]
theorem ripe_lt {rules : List Rul} (hq : ∀ q ∈ rules, RulOk q) : ∀ (cs : List Int), ∀ k ∈ ripeW rules cs, K5 k := by
  induction rules with
  | nil => intro cs k hk; cases cs <;> cases hk
  | cons q qs ih =>
    intro cs k hk
    cases cs with
    | nil => cases hk
    | cons c cs =>
      have ih := ih (fun x hx => hq x (List.mem_cons_of_mem _ hx)) cs k
      unfold ripeW at hk
      split at hk
      · rcases List.mem_cons.mp hk with rfl | hk
        · exact (hq q (List.mem_cons_self ..)).l
        · exact ih hk
      · exact ih hk
def turnKs (rules : List Rul) : List Nat → List (List Int) → List Nat
  | k :: ks, c :: cs => turnK rules k c :: turnKs rules ks cs
  | _, _ => []
def turnCs (rules : List Rul) (cs : List (List Int)) : List (List Int) := cs.map (turnC rules)
theorem turned_loop {rules : List Rul} (hq : ∀ q ∈ rules, RulOk q) (hr : rules.length ≤ 50) {m : Sto} {c0 c2 : Option Cell} : ∀ (ks : List Nat) (cs : List (List Int)) (ka : List Nat) (ca : List (List Int)), ks.length = cs.length → (∀ c ∈ cs, c.length = rules.length) → ka.length + ks.length ≤ 100 → ca.length + ks.length ≤ 100 →
    forL g_turned5 b_turned4 (List.zipWith (fun x y => D.tup [x, y]) (encS ks) (encC cs)) [c0, some (.val (.tup (rules.map encR))), c2, some (.lst (encS ka)), some (.lst (encC ca)), none, none, none, none, none] m =
      .nx [c0, some (.val (.tup (rules.map encR))), c2, some (.lst (encS (ka ++ turnKs rules ks cs))), some (.lst (encC (ca ++ turnCs rules cs))), none, none, none, none, none] m
  | [], [], ka, ca, _, _, _, _ => by simp [forL_nil, turnKs, turnCs, encS, encC]
  | k :: ks, c :: cs, ka, ca, hl, hc, h1, h2 => by
    have hcl := hc c (List.mem_cons_self ..)
    simp only [List.length_cons] at hl h1 h2
    have ih := turned_loop hq hr (m := m) (c0 := c0) (c2 := c2) ks cs (ka ++ [turnK rules k c]) (ca ++ [turnC rules c]) (by omega) (fun x hx => hc x (List.mem_cons_of_mem _ hx)) (by simp; omega) (by simp; omega)
    have hrc := ripe_comp (c0 := c0) (c1 := some (.val (.tup (rules.map encR)))) (c2 := c2) (c3 := some (.lst (encS ka))) (c4 := some (.lst (encC ca))) (c5 := some (.val (.str [k]))) (c6 := some (.val (.tup (encI c)))) (c7 := none) (m := m) rules c hcl.symm
    have hka : (encS ka).length < LIM := Nat.lt_of_le_of_lt (show _ ≤ 100 by simp [encS]; omega) (by decide)
    have hca : (encC ca).length < LIM := Nat.lt_of_le_of_lt (show _ ≤ 100 by simp [encC]; omega) (by decide)
    show forL g_turned5 b_turned4 (D.tup [.str [k], .tup (encI c)] :: List.zipWith (fun x y => D.tup [x, y]) (encS ks) (encC cs)) _ m = _
    rw [forL_step (r' := [c0, some (.val (.tup (rules.map encR))), c2, some (.lst (encS ka)), some (.lst (encC ca)), some (.val (.str [k])), some (.val (.tup (encI c))), none, none, none]) (r2 := [c0, some (.val (.tup (rules.map encR))), c2, some (.lst (encS (ka ++ [turnK rules k c]))), some (.lst (encC (ca ++ [turnC rules c]))), none, none, none, none, none]) (m2 := m) rfl (by
      unfold b_turned4
      rw [seq_nx (r1 := [c0, some (.val (.tup (rules.map encR))), c2, some (.lst (encS ka)), some (.lst (encC ca)), some (.val (.str [k])), some (.val (.tup (encI c))), some (.val (.lst (encS (ripeW rules c)))), none, none]) (m1 := m) (by
        have ez : sZ2 (aCons (sVar 1) (aCons (sVar 6) (aNil))) [c0, some (.val (.tup (rules.map encR))), c2, some (.lst (encS ka)), some (.lst (encC ca)), some (.val (.str [k])), some (.val (.tup (encI c))), none, none, none] m = .ok (List.zipWith (fun x y => D.tup [x, y]) (rules.map encR) (encI c)) m := by
          unfold sZ2
          simp
        have hz : (List.zipWith (fun x y => D.tup [x, y]) (rules.map encR) (encI c)).length ≤ LIM := lim12 (by simp; omega)
        simp only [ev_asg, ev_Lc, ez, bindR_ok]
        rw [if_pos ⟨hz, by simp⟩]
        simp only [wipeE_cons, wipeE_nil, List.set_cons_succ, List.set_cons_zero]
        rw [hrc]
        simp)]
      have hn := ne_nil (L := ripeW rules c) (fun x hx => k5_lt (ripe_lt hq c x hx)) (m := m)
      have h0 : (0 : Nat) ≤ LIM := by decide
      have h1' : (1 : Nat) ≤ LIM := by decide
      have hmul : opMul (.tup [.int 0]) (.int (rules.length : Nat)) m = .ok (.tup (encI (List.replicate rules.length 0))) m := by
        show (if [D.int 0] ≠ [] ∧ Sml ((rules.length : Nat) : Int) [D.int 0].length then R.ok (D.tup (List.replicate ((rules.length : Nat) : Int).toNat [D.int 0]).flatten) m else .bad) = _
        rw [if_pos ⟨by simp, by unfold Sml; simp; omega⟩]
        simp [encI]
      have es : encS (ka ++ [turnK rules k c]) = encS ka ++ [.str [turnK rules k c]] := by simp [encS]
      have ec : encC (ca ++ [turnC rules c]) = encC ca ++ [.tup (encI (turnC rules c))] := by simp [encC]
      rw [es, ec]
      cases e : ripeW rules c with
      | nil =>
        rw [e] at hn
        simp [-ev_ne, hn, h0, hka, hca, turnK, turnC, e]
      | cons l t =>
        rw [e] at hn
        have e8 : encS (l :: t) = .str [l] :: encS t := rfl
        rw [e8] at hn
        simp [-ev_ne, e8, hn, h0, h1', hka, hca, turnK, turnC, e, hmul])]
    rw [ih]
    simp [turnKs, turnCs]
theorem turnKs_length (rules : List Rul) : ∀ (ks : List Nat) (cs : List (List Int)), ks.length = cs.length → (turnKs rules ks cs).length = ks.length
  | [], [], _ => rfl
  | k :: ks, c :: cs, h => by
    have := turnKs_length rules ks cs (by simpa using h)
    simp [turnKs, this]
theorem turned_ok {rules : List Rul} (hq : ∀ q ∈ rules, RulOk q) (hr : rules.length ≤ 50) {row : List Nat} {cs : List (List Int)} (hl : row.length = cs.length) (hc : ∀ c ∈ cs, c.length = rules.length) (h1 : row.length ≤ 100) (m : Sto) :
    f_turned [.str row, .tup (rules.map encR), .lst (encC cs)] m = .ok (.tup [.str (turnKs rules row cs), .tup (encC (turnCs rules cs))]) m := by
  have h0 : (0 : Nat) ≤ LIM := by decide
  have h2 : (2 : Nat) ≤ LIM := by decide
  have hi := turned_loop hq hr (m := m) (c0 := some (.val (.str row))) (c2 := some (.val (.lst (encC cs)))) row cs [] [] hl hc (by simpa using h1) (by simpa using h1)
  show ofFl (b_turned [some (.val (.str row)), some (.val (.tup (rules.map encR))), some (.val (.lst (encC cs))), none, none, none, none, none, none, none] m) = _
  unfold b_turned
  rw [seq_nx (r1 := [some (.val (.str row)), some (.val (.tup (rules.map encR))), some (.val (.lst (encC cs))), some (.lst []), some (.lst []), none, none, none, none, none]) (m1 := m) (by simp [h0])]
  rw [seq_nx (r1 := [some (.val (.str row)), some (.val (.tup (rules.map encR))), some (.val (.lst (encC cs))), some (.lst (encS (turnKs rules row cs))), some (.lst (encC (turnCs rules cs))), none, none, none, none, none]) (m1 := m) (by
    have ez : sZ2 (aCons (sVar 0) (aCons (sVar 2) (aNil))) [some (.val (.str row)), some (.val (.tup (rules.map encR))), some (.val (.lst (encC cs))), some (.lst []), some (.lst []), none, none, none, none, none] m = .ok (List.zipWith (fun x y => D.tup [x, y]) (encS row) (encC cs)) m := by
      unfold sZ2
      simp [encS]
    rw [ev_for, ez, bindS_ok]
    exact hi)]
  have hk := turnKs_length rules row cs hl
  have hmap : encS (turnKs rules row cs) = ((turnKs rules row cs).map fun c => [c]).map D.str := by simp [encS]
  have hsum : (((turnKs rules row cs).map fun c => [c]).map List.length).sum ≤ 1000 := by
    have := sum_ones (turnKs rules row cs)
    omega
  have hfl := flat_ones (turnKs rules row cs)
  rw [hmap]
  simp only [ev_ret, ev_tup, ev_cons, ev_nil, ev_meth, ev_c, bindR_ok, kD_str, if_true, ev_pk, List.getElem?_cons_succ, List.getElem?_cons_zero, join_l, strsD_map, joinD_ok2 hsum, hfl, ev_call, tuple_l, List.length_cons, List.length_nil]
  simp [h2]
/-- a beat later -/
def beatW (bars : List Nat) (rules : List Rul) (row : List Nat) (counts : List (List Int)) : List Nat × List (List Int) :=
  (turnKs rules row (cntAll row bars rules counts), turnCs rules (cntAll row bars rules counts))
def encT (row : List Nat) (counts : List (List Int)) : D := .tup [.str row, .tup (encC counts)]
theorem cntAll_length (row bars : List Nat) (rules : List Rul) (counts : List (List Int)) : (cntAll row bars rules counts).length = row.length := by simp [cntAll, cntN]
theorem cntW_length {row bars : List Nat} {p : Nat} : ∀ (qs : List Rul) (os : List Int), qs.length = os.length → (cntW row bars p qs os).length = qs.length
  | [], [], _ => rfl
  | q :: qs, o :: os, h => by
    have := cntW_length (row := row) (bars := bars) (p := p) qs os (by simpa using h)
    simp [cntW, this]
theorem cntAll_each {row bars : List Nat} {rules : List Rul} {counts : List (List Int)} (h : SOk rules row counts) : ∀ c ∈ cntAll row bars rules counts, c.length = rules.length := by
  intro c hc
  obtain ⟨p, hp, rfl⟩ := List.mem_map.mp hc
  have hp := List.mem_range.mp hp
  have hpc : p < counts.length := by rw [h.cl]; exact hp
  rw [List.getElem?_eq_getElem hpc]
  exact cntW_length rules _ (h.c _ (List.getElem_mem hpc)).symm
theorem beat_ok {row bars : List Nat} {rules : List Rul} {counts : List (List Int)} {x : D} (h : SOk rules row counts) (hq : ∀ q ∈ rules, RulOk q) (hl : rules.length ≤ 50) (m : Sto) :
    f_beat_of [.tup [x, .tup (encB bars), .tup (rules.map encR)], .str row, .tup (encC counts)] m = .ok (encT (beatW bars rules row counts).1 (beatW bars rules row counts).2) m := by
  have a1 : atI [x, D.tup (encB bars), .tup (rules.map encR)] 1 = some (.tup (encB bars)) := rfl
  have a2 : atI [x, D.tup (encB bars), .tup (rules.map encR)] 2 = some (.tup (rules.map encR)) := rfl
  have hc := counted_ok (bars := bars) h hq hl m
  have hlen := h.len
  have ht := turned_ok hq hl (row := row) (cs := cntAll row bars rules counts) (cntAll_length ..).symm (cntAll_each h) (by omega) m
  show ofFl (b_beat_of [some (.val (.tup [x, .tup (encB bars), .tup (rules.map encR)])), some (.val (.str row)), some (.val (.tup (encC counts)))] m) = _
  unfold b_beat_of
  simp [a1, a2, hc, ht, beatW, encT]
end Dl
namespace Dl
open PySem PySem.Spec PyProof.Rows L2 TL

/-! ### states that come of states -/
theorem turnKs_all {rules : List Rul} {Z : Nat → Prop} (hr : ∀ q ∈ rules, Z q.l) : ∀ (ks : List Nat) (cs : List (List Int)), (∀ k ∈ ks, Z k) → ∀ k ∈ turnKs rules ks cs, Z k
  | [], _, _ => by intro k hk; cases hk
  | _ :: _, [], _ => by intro k hk; cases hk
  | k :: ks, c :: cs, h => by
    intro x hx
    rcases List.mem_cons.mp hx with rfl | hx
    · have rip : ∀ (qs : List Rul) (os : List Int), (∀ q ∈ qs, Z q.l) → ∀ y ∈ ripeW qs os, Z y := by
        intro qs
        induction qs with
        | nil => intro os _ y hy; cases os <;> cases hy
        | cons q qs ih =>
          intro os hz y hy
          cases os with
          | nil => cases hy
          | cons o os =>
            unfold ripeW at hy
            split at hy
            · rcases List.mem_cons.mp hy with rfl | hy
              · exact hz q (List.mem_cons_self ..)
              · exact ih os (fun z hz' => hz z (List.mem_cons_of_mem _ hz')) y hy
            · exact ih os (fun z hz' => hz z (List.mem_cons_of_mem _ hz')) y hy
      unfold turnK
      cases e : ripeW rules c with
      | nil => exact h k (List.mem_cons_self ..)
      | cons l t => exact rip rules c hr l (by rw [e]; exact List.mem_cons_self ..)
    · exact turnKs_all hr ks cs (fun y hy => h y (List.mem_cons_of_mem _ hy)) x hx
theorem SOk.beat {bars : List Nat} {rules : List Rul} {row : List Nat} {counts : List (List Int)} (h : SOk rules row counts) (hq : ∀ q ∈ rules, RulOk q) : SOk rules (beatW bars rules row counts).1 (beatW bars rules row counts).2 := by
  have hl : row.length = (cntAll row bars rules counts).length := (cntAll_length ..).symm
  have hk := turnKs_length rules row _ hl
  refine ⟨by show (turnKs rules row _).length ≤ 12; rw [hk]; exact h.len, turnKs_all (fun q hq' => (hq q hq').l) row _ h.k, ?_, ?_⟩
  · show (turnCs rules (cntAll row bars rules counts)).length = (turnKs rules row (cntAll row bars rules counts)).length
    rw [hk, hl]
    simp [turnCs]
  · intro c hc
    obtain ⟨d, hd, rfl⟩ := List.mem_map.mp hc
    unfold turnC
    split
    · exact cntAll_each h d hd
    · simp
end Dl
namespace Dl
open PySem PySem.Spec PyProof.Rows L2 TL

/-! ### the states that come of a world -/
abbrev ST := List Nat × List (List Int)
def zer (n : Nat) (row : List Nat) : List (List Int) := row.map fun _ => List.replicate n 0
def stW (W : Wld) : Nat → ST
  | 0 => (W.row, zer W.rules.length W.row)
  | n + 1 => beatW W.bars W.rules (stW W n).1 (stW W n).2
def encP (s : ST) : D := encT s.1 s.2
theorem SOk.begun {W : Wld} (h : WOk W) : SOk W.rules W.row (zer W.rules.length W.row) := by
  refine ⟨h.len, h.k, by simp [zer], fun c hc => ?_⟩
  obtain ⟨_, _, rfl⟩ := List.mem_map.mp hc
  simp
theorem SOk.st {W : Wld} (h : WOk W) : ∀ n, SOk W.rules (stW W n).1 (stW W n).2
  | 0 => SOk.begun h
  | n + 1 => (SOk.st h n).beat h.r
theorem mul_zero {n : Nat} (hn : n ≤ 1000) {m : Sto} : opMul (.tup [.int 0]) (.int (n : Nat)) m = .ok (.tup (encI (List.replicate n 0))) m := by
  show (if [D.int 0] ≠ [] ∧ Sml ((n : Nat) : Int) [D.int 0].length then R.ok (D.tup (List.replicate ((n : Nat) : Int).toNat [D.int 0]).flatten) m else .bad) = _
  rw [if_pos ⟨by simp, by unfold Sml; simp; omega⟩]
  simp [encI]
theorem mul_zeroL {n : Nat} (hn : n ≤ 1000) {m : Sto} : opMul (.lst [.int 0]) (.int (n : Nat)) m = .ok (.lst (encI (List.replicate n 0))) m := by
  show (if Sml ((n : Nat) : Int) [D.int 0].length then R.ok (D.lst (List.replicate ((n : Nat) : Int).toNat [D.int 0]).flatten) m else .bad) = _
  rw [if_pos (by unfold Sml; simp; omega)]
  simp [encI]
theorem begun_ok {row : List Nat} {rules : List Rul} (h1 : row.length ≤ 1000) (h2 : rules.length ≤ 1000) (m : Sto) : f_begun [.str row, .tup (rules.map encR)] m = .ok (.tup (encC (zer rules.length row))) m := by
  have h0 : (1 : Nat) ≤ LIM := by decide
  have hz : row.length ≤ LIM := lim12 h1
  have hm := mul_zero h2 (m := m)
  have hl := lcL_map (g := g_begun1) (t := sYes) (f := f_begun2) (r0 := [some (.val (.str row)), some (.val (.tup (rules.map encR))), none]) (m := m) (fun _ => .tup (encI (List.replicate rules.length 0))) (row.map fun c => .str [c]) fun d hd => by
    refine ⟨_, rfl, rfl, ?_⟩
    simp [f_begun2, h0, hm]
  show ofFl (b_begun [some (.val (.str row)), some (.val (.tup (rules.map encR))), none] m) = _
  unfold b_begun
  simp [hz, hl, encC, zer]
def kP (s : ST) : NestedKey := .tup [.text ⟨s.1.toArray⟩, .tup (s.2.map fun c => .tup (c.map .num))]
theorem keysOf_I : ∀ c : List Int, keysOf (encI c) = some (c.map .num)
  | [] => rfl
  | a :: r => by
    have ih := keysOf_I r
    show keysOf (D.int a :: encI r) = _
    unfold keysOf
    rw [ih]
    rfl
theorem keysOf_C : ∀ c : List (List Int), keysOf (encC c) = some (c.map fun c => .tup (c.map .num))
  | [] => rfl
  | a :: r => by
    have ih := keysOf_C r
    show keysOf (D.tup (encI a) :: encC r) = _
    unfold keysOf keyOf
    rw [ih, keysOf_I]
    rfl
theorem keyOf_P (s : ST) : keyOf (encP s) = some (kP s) := by
  show keyOf (.tup [.str s.1, .tup (encC s.2)]) = _
  simp only [keyOf, keysOf, keysOf_C]
  rfl
theorem depthAll_num : ∀ c : List Int, NestedKey.depthAll (c.map .num) ≤ 4
  | [] => by simp [NestedKey.depthAll]
  | a :: r => by
    have := depthAll_num r
    simp only [List.map_cons, NestedKey.depthAll, NestedKey.depth]
    omega
theorem depthAll_C : ∀ c : List (List Int), NestedKey.depthAll (c.map fun c => .tup (c.map .num)) ≤ 6
  | [] => by simp [NestedKey.depthAll]
  | a :: r => by
    have h1 := depthAll_num a
    have := depthAll_C r
    simp only [List.map_cons, NestedKey.depthAll, NestedKey.depth]
    omega
theorem keyT_P (s : ST) : keyT (encP s) = some (kP s) := by
  have h : (kP s).depth ≤ 8 := by
    have := depthAll_C s.2
    simp only [kP, NestedKey.depthAll, NestedKey.depth]
    omega
  have e := keyOf_P s
  show (match keyOf (encP s) with | some k => if k.depth ≤ 8 then some k else none | none => none) = _
  rw [e]
  exact if_pos h
theorem map_inj {α β : Type} {f : α → β} (h : ∀ a b, f a = f b → a = b) : ∀ l m : List α, l.map f = m.map f → l = m
  | [], [], _ => rfl
  | [], b :: m, e => by simp at e
  | a :: l, [], e => by simp at e
  | a :: l, b :: m, e => by
    simp only [List.map_cons, List.cons.injEq] at e
    rw [h a b e.1, map_inj h l m e.2]
theorem kP_inj {s t : ST} (h : kP s = kP t) : s = t := by
  obtain ⟨r, c⟩ := s
  obtain ⟨r', c'⟩ := t
  simp only [kP, NestedKey.tup.injEq, List.cons.injEq, NestedKey.text.injEq, and_true] at h
  obtain ⟨h1, h2⟩ := h
  have e1 : r = r' := by
    have h1 : r.toArray = r'.toArray := by simpa using h1
    simpa using h1
  have e2 : c = c' := map_inj (fun a b e => map_inj (fun x y z => NestedKey.num.inj z) a b (NestedKey.tup.inj e)) c c' h2
  rw [e1, e2]
theorem dAt_out {s : ST} : ∀ {ss : List ST} {vs : List D}, s ∉ ss → dAt (ss.map encP) vs (kP s) = none
  | [], _, _ => by simp [dAt]
  | a :: ss, [], _ => by simp [dAt]
  | a :: ss, v :: vs, h => by
    have e : ¬ kP a = kP s := fun z => h (by rw [kP_inj z]; exact List.mem_cons_self ..)
    have ih := dAt_out (ss := ss) (vs := vs) fun z => h (List.mem_cons_of_mem _ z)
    simp only [List.map_cons, dAt, keyOf_P, Option.some.injEq, if_neg e]
    exact ih
theorem dAt_in {s : ST} {v : D} : ∀ {ss : List ST} {vs : List D} {i : Nat}, ss.Nodup → ss[i]? = some s → vs[i]? = some v → dAt (ss.map encP) vs (kP s) = some v
  | [], _, _, _, h, _ => by simp at h
  | _ :: _, [], _, _, _, h => by simp at h
  | a :: ss, w :: vs, i, hn, h1, h2 => by
    cases i with
    | zero =>
      simp only [List.getElem?_cons_zero, Option.some.injEq] at h1 h2
      subst h1 h2
      simp only [List.map_cons, dAt, keyOf_P, if_true]
    | succ i =>
      simp only [List.getElem?_cons_succ] at h1 h2
      have hm := List.mem_of_getElem? h1
      have hn' := List.nodup_cons.mp hn
      have e : ¬ kP a = kP s := fun z => hn'.1 (by rw [kP_inj z]; exact hm)
      simp only [List.map_cons, dAt, keyOf_P, Option.some.injEq, if_neg e]
      exact dAt_in hn'.2 h1 h2
/-- the first state met again is the j-th; it was the i-th -/
structure Rep1 (st : Nat → ST) (j i : Nat) : Prop where
  lt : i < j
  eq : st i = st j
  inj : ∀ a b, a < b → b < j → st a ≠ st b
def stL (st : Nat → ST) (n : Nat) : List ST := (List.range n).map st
def rowsL (st : Nat → ST) (n : Nat) : List D := (List.range n).map fun a => .str (st a).1
def valsL (n : Nat) : List D := (List.range n).map fun (a : Nat) => .int a
theorem stL_out {st : Nat → ST} {n : Nat} (h : ∀ a, a < n → st a ≠ st n) : st n ∉ stL st n := fun z => by
  obtain ⟨a, ha, e⟩ := List.mem_map.mp z
  exact h a (List.mem_range.mp ha) e
theorem stL_nodup {st : Nat → ST} {n : Nat} (h : ∀ a b, a < b → b < n → st a ≠ st b) : (stL st n).Nodup := by
  unfold stL
  rw [List.nodup_iff_pairwise_ne, List.pairwise_map]
  have hp : (List.range n).Pairwise (fun a b => a < b ∧ b < n) := by
    rw [List.pairwise_iff_getElem]
    intro i j hi hj hij
    simp only [List.length_range] at hi hj
    simp
    omega
  exact hp.imp fun ⟨h1, h2⟩ => h _ _ h1 h2
theorem stL_at {st : Nat → ST} {n i : Nat} (h : i < n) : (stL st n)[i]? = some (st i) := by
  unfold stL
  rw [List.getElem?_map, List.getElem?_range h]
  rfl
theorem valsL_at {n i : Nat} (h : i < n) : (valsL n)[i]? = some (.int i) := by
  unfold valsL
  rw [List.getElem?_map, List.getElem?_range h]
  rfl
theorem stL_succ (st : Nat → ST) (n : Nat) : (stL st (n + 1)).map encP = (stL st n).map encP ++ [encP (st n)] := by
  unfold stL
  rw [List.range_succ, List.map_append, List.map_append]
  rfl
theorem rowsL_succ (st : Nat → ST) (n : Nat) : rowsL st (n + 1) = rowsL st n ++ [.str (st n).1] := by
  unfold rowsL
  rw [List.range_succ, List.map_append]
  rfl
theorem valsL_succ (n : Nat) : valsL (n + 1) = valsL n ++ [.int n] := by
  unfold valsL
  rw [List.range_succ, List.map_append]
  rfl
@[simp] theorem rowsL_length (st : Nat → ST) (n : Nat) : (rowsL st n).length = n := by simp [rowsL]
@[simp] theorem stL_length (st : Nat → ST) (n : Nat) : (stL st n).length = n := by simp [stL]
theorem while_go {t : SB} {b : SS} {r r2 : Env} {m m1 m2 : Sto} {N : Nat} (ht : t r m = .ok true m1) (hb : b r m1 = .nx r2 m2) : whileN t b (N + 1) r m = whileN t b N r2 m2 := by
  show bindS r (t r m) _ = _
  rw [ht]
  simp [hb]
theorem while_end {t : SB} {b : SS} {r : Env} {m m1 : Sto} {N : Nat} (ht : t r m = .ok false m1) : whileN t b (N + 1) r m = .nx r m1 := by
  show bindS r (t r m) _ = _
  rw [ht]
  simp
theorem while_ret {t : SB} {b : SS} {r : Env} {m m1 m2 : Sto} {N : Nat} {d : D} (ht : t r m = .ok true m1) (hb : b r m1 = .rt d m2) : whileN t b (N + 1) r m = .rt d m2 := by
  show bindS r (t r m) _ = _
  rw [ht]
  simp [hb]
/-- many turns that go on -/
theorem while_many {t : SB} {b : SS} {E : Nat → Env} {m : Sto} {N : Nat} : ∀ (j : Nat), j ≤ N → (∀ n, n < j → t (E n) m = .ok true m ∧ b (E n) m = .nx (E (n + 1)) m) → whileN t b N (E 0) m = whileN t b (N - j) (E j) m
  | 0, _, _ => rfl
  | j + 1, hj, h => by
    rw [while_many j (by omega) fun n hn => h n (by omega)]
    obtain ⟨k, e⟩ : ∃ k, N - j = k + 1 := ⟨N - j - 1, by omega⟩
    rw [e, while_go (h j (by omega)).1 (h j (by omega)).2]
    congr 1
    omega
theorem atI_t0 {a : D} {l : List D} : atI (a :: l) 0 = some a := atI_zero
end Dl
namespace Dl
open PySem PySem.Spec PyProof.Rows L2 TL
/-! ### a shelf as it stands in the store -/
def shF (a b c : D) (wl nl : List D) : MObj := .ins "Shelf" [("rules", .val a), ("row", .val b), ("counts", .val c), ("walls", .lst wl), ("notes", .lst nl)]
section
variable {r : Env} {m m1 : Sto} {n i : Nat} {a b c d x y : D} {wl nl : List D} {fc : SCe} {fe : SE} {g gv : Q1 D} {lo hi : QO}
theorem at_fld {f : Str} {z : Cell} (hr : r[i]? = some (some (.val (.obj n)))) (hm : m[n]? = some (shF a b c wl nl)) (hz : List.lookup f [(("rules" : Str), Cell.val a), ("row", .val b), ("counts", .val c), ("walls", .lst wl), ("notes", .lst nl)] = some z) : fldAt "Shelf" i f r m = some (n, z) := by
  unfold fldAt
  rw [hr]
  dsimp only
  rw [hm]
  show (if ("Shelf" : Str) = "Shelf" then (List.lookup f _).map fun c => (n, c) else none) = _
  rw [if_pos rfl, hz]
  rfl
theorem fl_rules (hr : r[i]? = some (some (.val (.obj n)))) (hm : m[n]? = some (shF a b c wl nl)) : sFld "Shelf" i "rules" r m = .ok a m := by
  unfold sFld
  rw [at_fld hr hm (z := .val a) rfl]
theorem fl_row (hr : r[i]? = some (some (.val (.obj n)))) (hm : m[n]? = some (shF a b c wl nl)) : sFld "Shelf" i "row" r m = .ok b m := by
  unfold sFld
  rw [at_fld hr hm (z := .val b) rfl]
theorem fl_counts (hr : r[i]? = some (some (.val (.obj n)))) (hm : m[n]? = some (shF a b c wl nl)) : sFld "Shelf" i "counts" r m = .ok c m := by
  unfold sFld
  rw [at_fld hr hm (z := .val c) rfl]
theorem sf_gen {f : Str} {z : Cell} {a' b' c' : D} {wl' nl' : List D} (hr : r[i]? = some (some (.val (.obj n)))) (hm : m[n]? = some (shF a b c wl nl)) (he : fc r m = .ok z m) (hp : putC f z [(("rules" : Str), Cell.val a), ("row", .val b), ("counts", .val c), ("walls", .lst wl), ("notes", .lst nl)] = [(("rules" : Str), Cell.val a'), ("row", .val b'), ("counts", .val c'), ("walls", .lst wl'), ("notes", .lst nl')]) :
    sSetF "Shelf" i f fc r m = .nx r (m.set n (shF a' b' c' wl' nl')) := by
  unfold sSetF
  rw [he]
  show (match r[i]? with
  | some (some (.val (.obj n))) => (match m[n]? with
    | some (.ins nm' fs) => if nm' = "Shelf" ∧ fs.length < 900 then Fl.nx r (m.set n (.ins nm' (putC f z fs))) else .bad
    | _ => .bad)
  | _ => .bad) = _
  rw [hr]
  dsimp only
  rw [hm]
  show (if ("Shelf" : Str) = "Shelf" ∧ 5 < 900 then Fl.nx r (m.set n (.ins "Shelf" (putC f z [(("rules" : Str), Cell.val a), ("row", .val b), ("counts", .val c), ("walls", .lst wl), ("notes", .lst nl)]))) else .bad) = _
  rw [if_pos ⟨rfl, by decide⟩, hp]
  rfl
theorem st_row (hr : r[i]? = some (some (.val (.obj n)))) (hm : m[n]? = some (shF a b c wl nl)) (he : fc r m = .ok (.val d) m) : sSetF "Shelf" i "row" fc r m = .nx r (m.set n (shF a d c wl nl)) := sf_gen hr hm he rfl
theorem st_counts (hr : r[i]? = some (some (.val (.obj n)))) (hm : m[n]? = some (shF a b c wl nl)) (he : fc r m = .ok (.val d) m) : sSetF "Shelf" i "counts" fc r m = .nx r (m.set n (shF a b d wl nl)) := sf_gen hr hm he rfl
theorem st_walls {wl' : List D} (hr : r[i]? = some (some (.val (.obj n)))) (hm : m[n]? = some (shF a b c wl nl)) (he : fc r m = .ok (.lst wl') m) : sSetF "Shelf" i "walls" fc r m = .nx r (m.set n (shF a b c wl' nl)) := sf_gen hr hm he rfl
theorem ix_wall {k : Int} (hr : r[i]? = some (some (.val (.obj n)))) (hm : m[n]? = some (shF a b c wl nl)) (hq : g r m = some (.int k)) (hk : atI wl k = some d) : sIxF "Shelf" i "walls" g r m = .ok d m := by
  unfold sIxF
  rw [at_fld hr hm (z := .lst wl) rfl, hq]
  dsimp only
  rw [hk]
theorem sl_wall {l u : Option Int} (hr : r[i]? = some (some (.val (.obj n)))) (hm : m[n]? = some (shF a b c wl nl)) (hl : lo r m = some l) (hu : hi r m = some u) : sSlF "Shelf" i "walls" lo hi r m = .ok (.lst (cutL wl l u)) m := by
  unfold sSlF
  rw [at_fld hr hm (z := .lst wl) rfl, hl, hu]
theorem pt_wall {k : Int} {j : Nat} (hr : r[i]? = some (some (.val (.obj n)))) (hm : m[n]? = some (shF a b c wl nl)) (hq : g r m = some (.int k)) (hv : gv r m = some d) (hk : ixN wl.length k = some j) : sPutF "Shelf" i "walls" g gv r m = .nx r (m.set n (shF a b c (wl.set j d) nl)) := by
  unfold sPutF
  rw [at_fld hr hm (z := .lst wl) rfl, hq, hv]
  dsimp only
  rw [hm, hk]
  rfl
theorem ap_notes (hr : r[i]? = some (some (.val (.obj n)))) (hm : m[n]? = some (shF a b c wl nl)) (hq : g r m = some d) (hl : nl.length < LIM) : sAppF "Shelf" i "notes" g r m = .nx r (m.set n (shF a b c wl (nl ++ [d]))) := by
  unfold sAppF
  rw [at_fld hr hm (z := .lst nl) rfl, hq]
  dsimp only
  rw [hm]
  show (if nl.length < LIM then Fl.nx r (m.set n (.ins "Shelf" (putC "notes" (.lst (nl ++ [d])) _))) else .bad) = _
  rw [if_pos hl]
  rfl
theorem st_two (hr : r[i]? = some (some (.val (.obj n)))) (he : fe r m = .ok (.tup [x, y]) m1) (hm : m1[n]? = some (shF a b c wl nl)) : sSetF2 "Shelf" i "row" "counts" fe r m = .nx r (m1.set n (shF a x y wl nl)) := by
  unfold sSetF2
  rw [he]
  show (match (D.tup [x, y]), r[i]? with
  | .tup [a, b], some (some (.val (.obj n))) => (match m1[n]? with
    | some (.ins nm' fs) => if nm' = "Shelf" ∧ fs.length < 800 then Fl.nx r (m1.set n (.ins nm' (putC "counts" (.val b) (putC "row" (.val a) fs)))) else .bad
    | _ => .bad)
  | _, _ => .bad) = _
  rw [hr]
  dsimp only
  rw [hm]
  show (if ("Shelf" : Str) = "Shelf" ∧ 5 < 800 then Fl.nx r (m1.set n (.ins "Shelf" (putC "counts" (.val y) (putC "row" (.val x) [(("rules" : Str), Cell.val a), ("row", .val b), ("counts", .val c), ("walls", .lst wl), ("notes", .lst nl)])))) else .bad) = _
  rw [if_pos ⟨rfl, by decide⟩]
  rfl
theorem mt_call {mm : Str} {k : Nat} {φ : Fd} {gl : SL} (hr : r[i]? = some (some (.val (.obj n)))) (hm : m[n]? = some (shF a b c wl nl)) (hn : List.lookup mm [(("rules" : Str), Cell.val a), ("row", .val b), ("counts", .val c), ("walls", .lst wl), ("notes", .lst nl)] = none) :
    sMethC "Shelf" mm i k φ gl r m = bindR (gl r m) fun ds m1 => callF k φ (.obj n :: ds) m1 := by
  unfold sMethC
  have e : insAt "Shelf" mm i r m = some n := by
    unfold insAt
    rw [hr]
    dsimp only
    rw [hm]
    show (if ("Shelf" : Str) = "Shelf" ∧ List.lookup mm _ = none then some n else none) = _
    rw [if_pos ⟨rfl, hn⟩]
  rw [e]
end
end Dl
namespace Dl
open PySem PySem.Spec PyProof.Rows L2 TL
structure Shf where
  rules : List Rul
  row : List Nat
  counts : List (List Int)
  walls : List Bool
  notes : List D
def shO (S : Shf) : MObj := shF (.tup (S.rules.map encR)) (.str S.row) (.tup (encC S.counts)) (S.walls.map D.bl) S.notes
structure ShOk (S : Shf) : Prop where
  so : SOk S.rules S.row S.counts
  wl : S.walls.length = S.row.length
  rl : S.rules.length ≤ 5
  r : ∀ q ∈ S.rules, RulOk q
  nn : S.notes.length ≤ 1000
def barsS (S : Shf) : List Nat := (List.range (S.row.length - 1)).filter fun p => (S.walls[p]?).getD false
def putS (S : Shf) (p k : Nat) : Shf := ⟨S.rules, S.row.take p ++ [k] ++ S.row.drop p, S.counts.take p ++ [List.replicate S.rules.length 0] ++ S.counts.drop p, S.walls.take p ++ [false] ++ S.walls.drop p, S.notes ++ [.tup [.str [112, 117, 116], .int p, .str [k]]]⟩
def barS (S : Shf) (p : Nat) : Shf := { S with walls := S.walls.set p true, notes := S.notes ++ [.tup [.str [98, 97, 114], .int p]] }
def tickS (S : Shf) : Shf := { S with row := (beatW (barsS S) S.rules S.row S.counts).1, counts := (beatW (barsS S) S.rules S.row S.counts).2, notes := S.notes ++ [.tup [.str [116, 105, 99, 107]]] }
def lookS (S : Shf) : List D := List.zipWith (fun x (y : D × D) => D.tup [x, y.1, y.2]) (S.row.map fun k => D.str [k]) ((encC S.counts).zip (S.walls.map D.bl))
theorem mem_zw {α β γ : Type} {f : α → β → γ} : ∀ {l : List α} {k : List β} {d : γ}, d ∈ List.zipWith f l k → ∃ x y, d = f x y
  | [], _, _, h => by simp at h
  | _ :: _, [], _, h => by simp at h
  | x :: l, y :: k, d, h => by
    rw [List.zipWith_cons_cons] at h
    rcases List.mem_cons.mp h with rfl | h
    · exact ⟨x, y, rfl⟩
    · exact mem_zw h
theorem get_set {m : Sto} {n : Nat} {X Y : MObj} (h : m[n]? = some X) : (m.set n Y)[n]? = some Y := List.getElem?_set_self (List.getElem?_eq_some_iff.mp h).1
section
variable {S : Shf} {m : Sto} {n : Nat}
theorem bars_okS (h : ShOk S) (hm : m[n]? = some (shO S)) : f_Shelf_bars [.obj n] m = .ok (.tup (encB (barsS S))) m := by
  have hlen := h.so.len
  have hz : S.row.length ≤ LIM := lim12 (by omega)
  have hrow := fl_row (r := [some (.val (.obj n)), none]) (i := 0) rfl hm
  have hin : inR ((S.row.length : Int) - 1) = true := decide_eq_true (by omega)
  have hl := lcL_filter (g := g_Shelf_bars1) (t := t_Shelf_bars2) (f := f_Shelf_bars3) (r0 := [some (.val (.obj n)), none]) (m := m) (fun d => match d with | .int k => (S.walls[k.toNat]?).getD false | _ => false) id (rangeL 0 (S.row.length - 1)) fun d hd => by
    obtain ⟨i, hi, e⟩ := List.mem_iff_getElem.mp hd
    obtain ⟨h1, h2⟩ := rangeL_get (List.getElem?_eq_some_iff.mpr ⟨hi, e⟩)
    subst h2
    have hw : i < S.walls.length := by rw [h.wl]; omega
    refine ⟨_, rfl, ?_, fun _ => rfl⟩
    have e1 := ix_wall (r := [some (.val (.obj n)), some (.val (.int (0 + (i : Nat))))]) (i := 0) (g := qVar 1) (k := (i : Nat)) (d := .bl S.walls[i]) rfl hm (by simp [qVar]) (by
      rw [atI_nat (x := .bl S.walls[i]) (by rw [List.getElem?_map, List.getElem?_eq_getElem hw]; rfl)])
    have e2 : (0 + (i : Int)).toNat = i := by omega
    unfold t_Shelf_bars2
    show bindR (sIxF "Shelf" 0 "walls" (qVar 1) [some (.val (.obj n)), some (.val (.int (0 + (i : Nat))))] m) _ = _
    rw [e1]
    show (R.ok S.walls[i] m : R Bool) = R.ok ((S.walls[(0 + (i : Int)).toNat]?).getD false) m
    rw [e2, List.getElem?_eq_getElem hw]
    rfl
  have e : (rangeL 0 (S.row.length - 1)).filter (fun d => match d with | .int k => (S.walls[k.toNat]?).getD false | _ => false) = encB (barsS S) := by
    unfold rangeL encB barsS
    rw [List.filter_map]
    have : (fun (k : Nat) => D.int (0 + (k : Int))) = fun (k : Nat) => D.int k := by
      funext k
      simp
    rw [this]
    congr 1
  rw [List.map_id, e] at hl
  have hzz : S.row.length - 1 ≤ LIM := lim12 (by omega)
  have e5 : ((S.row.length : Int) - 1).toNat = S.row.length - 1 := by omega
  show ofFl (b_Shelf_bars [some (.val (.obj n)), none] m) = _
  unfold b_Shelf_bars
  simp only [ev_ret, ev_call, ev_cons, ev_nil, ev_Lc]
  rw [ev_Rg (i := (S.row.length : Int) - 1) (m' := m) (by simp [hrow, hz]), if_pos hin]
  simp only [bindR_ok, rangeL_length, e5]
  rw [if_pos ⟨hzz, by simp⟩]
  simp only [wipeE_cons, wipeE_nil, List.set_cons_succ, List.set_cons_zero]
  rw [hl]
  simp
theorem world_okS (h : ShOk S) (hm : m[n]? = some (shO S)) : f_Shelf_world [.obj n] m = .ok (.tup [.str S.row, .tup (encB (barsS S)), .tup (S.rules.map encR)]) m := by
  have hrow := fl_row (r := [some (.val (.obj n))]) (i := 0) rfl hm
  have hrul := fl_rules (r := [some (.val (.obj n))]) (i := 0) rfl hm
  have hb := bars_okS h hm
  have hmt := mt_call (r := [some (.val (.obj n))]) (i := 0) (mm := "bars") (k := 1) (φ := f_Shelf_bars) (gl := aNil) rfl hm rfl
  have h3 : (3 : Nat) ≤ LIM := by decide
  show ofFl (b_Shelf_world [some (.val (.obj n))] m) = _
  unfold b_Shelf_world
  simp [hrow, hrul, hmt, hb, h3]
theorem look_okS (h : ShOk S) (hm : m[n]? = some (shO S)) : f_Shelf_look [.obj n] m = .ok (.lst (lookS S)) m := by
  have hlen := h.so.len
  have e : sLook "Shelf" 0 "row" "counts" "walls" [some (.val (.obj n)), none, none, none] m = .ok (.lst (lookS S)) m := by
    unfold sLook
    rw [at_fld (r := [some (.val (.obj n)), none, none, none]) (i := 0) rfl hm (z := .val (.str S.row)) rfl, at_fld (r := [some (.val (.obj n)), none, none, none]) (i := 0) rfl hm (z := .val (.tup (encC S.counts))) rfl, at_fld (r := [some (.val (.obj n)), none, none, none]) (i := 0) rfl hm (z := .lst (S.walls.map D.bl)) rfl]
    show (if (S.row.map fun k => D.str [k]).length ≤ 1000 then R.ok (D.lst (lookS S)) m else .bad) = _
    rw [if_pos (by simp; omega)]
  have h3 : (3 : Nat) ≤ LIM := by decide
  have hl := lcL_map (g := g_Shelf_look1) (t := sYes) (f := f_Shelf_look2) (r0 := [some (.val (.obj n)), none, none, none]) (m := m) id (lookS S) fun d hd => by
    obtain ⟨x, y, rfl⟩ := mem_zw hd
    refine ⟨_, rfl, rfl, ?_⟩
    simp [f_Shelf_look2, h3]
  have hz : (lookS S).length ≤ LIM := by
    refine lim12 ?_
    unfold lookS
    rw [List.length_zipWith, List.length_map]
    omega
  show ofFl (b_Shelf_look [some (.val (.obj n)), none, none, none] m) = _
  unfold b_Shelf_look
  simp only [ev_ret, ev_Lc, ev_It, e, bindR_ok, itD_l, ofO]
  rw [if_pos ⟨hz, by simp⟩]
  simp only [wipeE_cons, wipeE_nil, List.set_cons_succ, List.set_cons_zero]
  rw [hl, List.map_id]
  rfl
theorem place_okS {p : Nat} (most : Nat) (hp : p < most) (o : D) (m : Sto) : f_Shelf_need_place [o, .int (p : Nat), .int (most : Nat)] m = .ok .non m := by
  show ofFl (b_Shelf_need_place [some (.val o), some (.val (.int (p : Nat))), some (.val (.int (most : Nat)))] m) = _
  unfold b_Shelf_need_place
  have c0 : decide ((0 : Int) ≤ (p : Int)) = true := decide_eq_true (by omega)
  simp [c0, hp]
theorem put_okS {p k : Nat} (h : ShOk S) (hm : m[n]? = some (shO S)) (hp : p ≤ S.row.length) (hk : K5 k) (h12 : S.row.length < 12) : f_Shelf_put [.obj n, .int (p : Nat), .str [k]] m = .ok .non (m.set n (shO (putS S p k))) := by
  have hlen := h.so.len
  have hcl := h.so.cl
  have hwl := h.wl
  have hnn := h.nn
  have hrl := h.rl
  have hz : S.row.length ≤ LIM := lim12 (by omega)
  have h1 : (1 : Nat) ≤ LIM := by decide
  have h3 : (3 : Nat) ≤ LIM := by decide
  have ecl : (encC S.counts).length = S.row.length := by simp [encC, hcl]
  have ewl : (S.walls.map D.bl).length = S.row.length := by simp [hwl]
  have hnl : S.notes.length < LIM := Nat.lt_of_le_of_lt hnn (by decide)
  have r0 : ([some (.val (.obj n)), some (.val (.int (p : Nat))), some (.val (.str [k]))] : Env)[0]? = some (some (.val (.obj n))) := rfl
  generalize hr : ([some (.val (.obj n)), some (.val (.int (p : Nat))), some (.val (.str [k]))] : Env) = r at r0
  have r1 : r[1]? = some (some (.val (.int (p : Nat)))) := by rw [← hr]; rfl
  have r2 : r[2]? = some (some (.val (.str [k]))) := by rw [← hr]; rfl
  have v1 : ∀ m : Sto, sPk 1 r m = .ok (.int (p : Nat)) m := fun m => by rw [ev_pk, r1]
  have v2 : ∀ m : Sto, sPk 2 r m = .ok (.str [k]) m := fun m => by rw [ev_pk, r2]
  have w2 : ∀ m : Sto, sVar 2 r m = .ok (.str [k]) m := fun m => by rw [ev_var, r2]
  have q1 : ∀ m : Sto, qVar 1 r m = some (.int (p : Nat)) := fun m => by unfold qVar; rw [r1]
  have q2 : ∀ m : Sto, qVar 2 r m = some (.str [k]) := fun m => by unfold qVar; rw [r2]
  have hrow := fl_row (r := r) (i := 0) r0 hm
  have c0 : decide ((0 : Int) ≤ (p : Int)) = true := decide_eq_true (by omega)
  have c1 : decide ((p : Int) ≤ (S.row.length : Int)) = true := decide_eq_true (by omega)
  have c2 : ((S.row.length : Int) == 12) = false := by simp; omega
  show ofFl (b_Shelf_put [some (.val (.obj n)), some (.val (.int (p : Nat))), some (.val (.str [k]))] m) = _
  rw [hr]
  unfold b_Shelf_put
  rw [seq_nx (r1 := r) (m1 := m) (by simp [r1, hrow, hz, c0, c1, hp])]
  rw [seq_nx (r1 := r) (m1 := m) (by simp [r2, is_kind_ok hk])]
  rw [seq_nx (r1 := r) (m1 := m) (by simp [hrow, hz, c2])]
  have t1 : opAdd (.str (S.row.take p)) (.str [k]) m = .ok (.str (S.row.take p ++ [k])) m := if_pos (lim12 (by simp; omega))
  have t2 : opAdd (.str (S.row.take p ++ [k])) (.str (S.row.drop p)) m = .ok (.str (S.row.take p ++ [k] ++ S.row.drop p)) m := if_pos (lim12 (by simp; omega))
  have s1 : opSl (.str S.row) none (some (p : Int)) m = .ok (.str (S.row.take p)) m := by
    rw [← cut_take hp]
    exact if_pos hz
  have s2 : opSl (.str S.row) (some (p : Int)) none m = .ok (.str (S.row.drop p)) m := by
    rw [← cut_drop hp]
    exact if_pos hz
  rw [seq_nx (r1 := r) (m1 := m.set n (shF (.tup (S.rules.map encR)) (.str (S.row.take p ++ [k] ++ S.row.drop p)) (.tup (encC S.counts)) (S.walls.map D.bl) S.notes)) (st_row r0 hm (by
    simp only [ev_cV, ev_bin, ev_sl, hrow, v1, v2, ev_oNone, ev_oSome, bindR_ok, s1, s2, t1, t2]))]
  have hm1 := get_set (Y := shF (.tup (S.rules.map encR)) (.str (S.row.take p ++ [k] ++ S.row.drop p)) (.tup (encC S.counts)) (S.walls.map D.bl) S.notes) hm
  generalize hme : m.set n (shF (.tup (S.rules.map encR)) (.str (S.row.take p ++ [k] ++ S.row.drop p)) (.tup (encC S.counts)) (S.walls.map D.bl) S.notes) = m1 at hm1
  have hcnt := fl_counts (r := r) (i := 0) r0 hm1
  have hrul := fl_rules (r := r) (i := 0) r0 hm1
  have hmz := mul_zero (n := S.rules.length) (by omega) (m := m1)
  have u1 : opAdd (.tup ((encC S.counts).take p)) (.tup [.tup (encI (List.replicate S.rules.length 0))]) m1 = .ok (.tup ((encC S.counts).take p ++ [.tup (encI (List.replicate S.rules.length 0))])) m1 := if_pos (lim12 (by rw [List.length_take, List.length_singleton, ecl]; omega))
  have u2 : opAdd (.tup ((encC S.counts).take p ++ [.tup (encI (List.replicate S.rules.length 0))])) (.tup ((encC S.counts).drop p)) m1 = .ok (.tup ((encC S.counts).take p ++ [.tup (encI (List.replicate S.rules.length 0))] ++ (encC S.counts).drop p)) m1 := if_pos (lim12 (by rw [List.length_append, List.length_take, List.length_singleton, List.length_drop, ecl]; omega))
  have ct : cutL (encC S.counts) none (some (p : Int)) = (encC S.counts).take p := cut_take (by rw [ecl]; exact hp)
  have cd : cutL (encC S.counts) (some (p : Int)) none = (encC S.counts).drop p := cut_drop (by rw [ecl]; exact hp)
  rw [seq_nx (r1 := r) (m1 := m1.set n (shF (.tup (S.rules.map encR)) (.str (S.row.take p ++ [k] ++ S.row.drop p)) (.tup ((encC S.counts).take p ++ [.tup (encI (List.replicate S.rules.length 0))] ++ (encC S.counts).drop p)) (S.walls.map D.bl) S.notes)) (st_counts r0 hm1 (by
    have hl : (S.rules.map encR).length = S.rules.length := by simp
    simp only [ev_cV, ev_bin, ev_sl, hcnt, hrul, v1, ev_oNone, ev_oSome, bindR_ok, sl_t, ct, cd, ev_tup, ev_cons, ev_nil, ev_c, ev_call, len_tup, List.length_cons, List.length_nil, Nat.zero_add, h1, if_true, hl, hmz, u1, u2]))]
  have hm2 := get_set (Y := shF (.tup (S.rules.map encR)) (.str (S.row.take p ++ [k] ++ S.row.drop p)) (.tup ((encC S.counts).take p ++ [.tup (encI (List.replicate S.rules.length 0))] ++ (encC S.counts).drop p)) (S.walls.map D.bl) S.notes) hm1
  rw [← hme, List.set_set] at hm2 ⊢
  generalize hme2 : m.set n (shF (.tup (S.rules.map encR)) (.str (S.row.take p ++ [k] ++ S.row.drop p)) (.tup ((encC S.counts).take p ++ [.tup (encI (List.replicate S.rules.length 0))] ++ (encC S.counts).drop p)) (S.walls.map D.bl) S.notes) = m2 at hm2
  have wt : cutL (S.walls.map D.bl) none (some (p : Int)) = (S.walls.map D.bl).take p := cut_take (by rw [ewl]; exact hp)
  have wd : cutL (S.walls.map D.bl) (some (p : Int)) none = (S.walls.map D.bl).drop p := cut_drop (by rw [ewl]; exact hp)
  have sw1 := sl_wall (r := r) (i := 0) (lo := qoNone) (hi := qoSome (qVar 1)) (l := none) (u := some (p : Int)) r0 hm2 rfl (by unfold qoSome; rw [q1])
  have sw2 := sl_wall (r := r) (i := 0) (lo := qoSome (qVar 1)) (hi := qoNone) (l := some (p : Int)) (u := none) r0 hm2 (by unfold qoSome; rw [q1]) rfl
  have x1 : opAdd (.lst ((S.walls.map D.bl).take p)) (.lst [.bl false]) m2 = .ok (.lst ((S.walls.map D.bl).take p ++ [.bl false])) m2 := if_pos (lim12 (by rw [List.length_take, List.length_singleton, ewl]; omega))
  have x2 : catC (.lst ((S.walls.map D.bl).take p ++ [.bl false])) (.lst ((S.walls.map D.bl).drop p)) m2 = .ok (.lst ((S.walls.map D.bl).take p ++ [.bl false] ++ (S.walls.map D.bl).drop p)) m2 := if_pos (lim12 (by rw [List.length_append, List.length_take, List.length_singleton, List.length_drop, ewl]; omega))
  rw [seq_nx (r1 := r) (m1 := m2.set n (shF (.tup (S.rules.map encR)) (.str (S.row.take p ++ [k] ++ S.row.drop p)) (.tup ((encC S.counts).take p ++ [.tup (encI (List.replicate S.rules.length 0))] ++ (encC S.counts).drop p)) ((S.walls.map D.bl).take p ++ [.bl false] ++ (S.walls.map D.bl).drop p) S.notes)) (st_walls r0 hm2 (by
    show bindR (sBin opAdd _ _ r m2) _ = _
    simp only [ev_bin, sw1, sw2, wt, wd, bindR_ok, ev_lst, ev_cons, ev_nil, ev_c, List.length_cons, List.length_nil, Nat.zero_add, h1, if_true, x1, x2]))]
  have hm3 := get_set (Y := shF (.tup (S.rules.map encR)) (.str (S.row.take p ++ [k] ++ S.row.drop p)) (.tup ((encC S.counts).take p ++ [.tup (encI (List.replicate S.rules.length 0))] ++ (encC S.counts).drop p)) ((S.walls.map D.bl).take p ++ [.bl false] ++ (S.walls.map D.bl).drop p) S.notes) hm2
  rw [ap_notes (d := .tup [.str [112, 117, 116], .int (p : Nat), .str [k]]) r0 hm3 (by
    unfold qTup qCons qNil
    rw [q1, q2]
    show (if (3 : Nat) ≤ LIM then _ else none) = _
    rw [if_pos h3]) hnl]
  rw [← hme2, List.set_set, List.set_set]
  have e1 : (encC S.counts).take p ++ [.tup (encI (List.replicate S.rules.length 0))] ++ (encC S.counts).drop p = encC (putS S p k).counts := by simp [putS, encC, List.map_take, List.map_drop]
  have e2 : (S.walls.map D.bl).take p ++ [.bl false] ++ (S.walls.map D.bl).drop p = (putS S p k).walls.map D.bl := by simp [putS, List.map_take, List.map_drop]
  rw [e1, e2]
  rfl
theorem bar_okS {p : Nat} (h : ShOk S) (hm : m[n]? = some (shO S)) (hp : p < S.row.length) (hw : S.walls[p]? = some false) : f_Shelf_bar [.obj n, .int (p : Nat)] m = .ok .non (m.set n (shO (barS S p))) := by
  have hlen := h.so.len
  have hwl := h.wl
  have hz : S.row.length ≤ LIM := lim12 (by omega)
  have h2 : (2 : Nat) ≤ LIM := by decide
  have hnl : S.notes.length < LIM := Nat.lt_of_le_of_lt h.nn (by decide)
  have r0 : ([some (.val (.obj n)), some (.val (.int (p : Nat)))] : Env)[0]? = some (some (.val (.obj n))) := rfl
  generalize hr : ([some (.val (.obj n)), some (.val (.int (p : Nat)))] : Env) = r at r0
  have r1 : r[1]? = some (some (.val (.int (p : Nat)))) := by rw [← hr]; rfl
  have w1 : ∀ m : Sto, sVar 1 r m = .ok (.int (p : Nat)) m := fun m => by rw [ev_var, r1]
  have q1 : ∀ m : Sto, qVar 1 r m = some (.int (p : Nat)) := fun m => by unfold qVar; rw [r1]
  have hrow := fl_row (r := r) (i := 0) r0 hm
  have hpl := place_okS S.row.length hp (.obj n) m
  have hmt := mt_call (r := r) (i := 0) (mm := "need_place") (k := 3) (φ := f_Shelf_need_place) (gl := aCons (sVar 1) (aCons (sCall fLen (aCons (sFld "Shelf" 0 "row") (aNil))) (aNil))) r0 hm rfl
  have hix := ix_wall (r := r) (i := 0) (g := qVar 1) (k := (p : Nat)) (d := .bl false) r0 hm (q1 m) (by rw [atI_nat (x := .bl false) (by rw [List.getElem?_map, hw]; rfl)])
  show ofFl (b_Shelf_bar [some (.val (.obj n)), some (.val (.int (p : Nat)))] m) = _
  rw [hr]
  unfold b_Shelf_bar
  rw [seq_nx (r1 := r) (m1 := m) (by
    rw [ev_expr, hmt]
    simp [r1, hrow, hz, hpl])]
  rw [seq_nx (r1 := r) (m1 := m) (by simp [hix])]
  have hk : ixN (S.walls.map D.bl).length (p : Int) = some p := by
    unfold ixN
    rw [if_pos (by omega), if_pos (by rw [List.length_map, hwl]; omega)]
    simp
  rw [seq_nx (r1 := r) (m1 := m.set n (shF (.tup (S.rules.map encR)) (.str S.row) (.tup (encC S.counts)) ((S.walls.map D.bl).set p (.bl true)) S.notes)) (pt_wall r0 hm (q1 m) rfl hk)]
  have hm1 := get_set (Y := shF (.tup (S.rules.map encR)) (.str S.row) (.tup (encC S.counts)) ((S.walls.map D.bl).set p (.bl true)) S.notes) hm
  rw [ap_notes (d := .tup [.str [98, 97, 114], .int (p : Nat)]) r0 hm1 (by
    unfold qTup qCons qNil
    rw [q1]
    show (if (2 : Nat) ≤ LIM then _ else none) = _
    rw [if_pos h2]) hnl]
  rw [List.set_set]
  have e2 : (S.walls.map D.bl).set p (.bl true) = (barS S p).walls.map D.bl := by
    show _ = (S.walls.set p true).map D.bl
    rw [List.map_set]
  rw [e2]
  rfl
theorem tick_okS (h : ShOk S) (hm : m[n]? = some (shO S)) : f_Shelf_tick [.obj n] m = .ok (.lst (encB ((List.range S.row.length).filter fun p => decide ((tickS S).row[p]? ≠ S.row[p]?)))) (m.set n (shO (tickS S))) := by
  have hlen := h.so.len
  have hz : S.row.length ≤ LIM := lim12 (by omega)
  have h1 : (1 : Nat) ≤ LIM := by decide
  have h3 : (3 : Nat) ≤ LIM := by decide
  have hnl : S.notes.length < LIM := Nat.lt_of_le_of_lt h.nn (by decide)
  have hrow := fl_row (r := [some (.val (.obj n)), none, none]) (i := 0) rfl hm
  have hbt := h.so.beat (bars := barsS S) h.r
  have hbl : (beatW (barsS S) S.rules S.row S.counts).1.length = S.row.length := by
    show (turnKs S.rules S.row (cntAll S.row (barsS S) S.rules S.counts)).length = _
    exact turnKs_length _ _ _ (cntAll_length ..).symm
  show ofFl (b_Shelf_tick [some (.val (.obj n)), none, none] m) = _
  unfold b_Shelf_tick
  rw [seq_nx (r1 := [some (.val (.obj n)), some (.val (.str S.row)), none]) (m1 := m) (by simp [hrow])]
  have hrul := fl_rules (r := [some (.val (.obj n)), some (.val (.str S.row)), none]) (i := 0) rfl hm
  have hcnt := fl_counts (r := [some (.val (.obj n)), some (.val (.str S.row)), none]) (i := 0) rfl hm
  have hmt := mt_call (r := [some (.val (.obj n)), some (.val (.str S.row)), none]) (i := 0) (mm := "bars") (k := 1) (φ := f_Shelf_bars) (gl := aNil) rfl hm rfl
  have hb := bars_okS h hm
  have hbe := beat_ok (bars := barsS S) (x := .str S.row) h.so h.r (by have := h.rl; omega) m
  rw [seq_nx (r1 := [some (.val (.obj n)), some (.val (.str S.row)), none]) (m1 := m.set n (shF (.tup (S.rules.map encR)) (.str (tickS S).row) (.tup (encC (tickS S).counts)) (S.walls.map D.bl) S.notes)) (st_two rfl (m1 := m) (by
    simp [hmt, hb, hrul, hcnt, hbe, h3, encT, tickS]) hm)]
  have hm1 := get_set (Y := shF (.tup (S.rules.map encR)) (.str (tickS S).row) (.tup (encC (tickS S).counts)) (S.walls.map D.bl) S.notes) hm
  rw [seq_nx (r1 := [some (.val (.obj n)), some (.val (.str S.row)), none]) (m1 := (m.set n (shF (.tup (S.rules.map encR)) (.str (tickS S).row) (.tup (encC (tickS S).counts)) (S.walls.map D.bl) S.notes)).set n (shF (.tup (S.rules.map encR)) (.str (tickS S).row) (.tup (encC (tickS S).counts)) (S.walls.map D.bl) (S.notes ++ [.tup [.str [116, 105, 99, 107]]]))) (ap_notes rfl hm1 (by
    unfold qTup qCons qNil
    show (if (1 : Nat) ≤ LIM then _ else none) = _
    rw [if_pos h1]) hnl)]
  rw [List.set_set]
  have hm2 := get_set (Y := shF (.tup (S.rules.map encR)) (.str (tickS S).row) (.tup (encC (tickS S).counts)) (S.walls.map D.bl) (S.notes ++ [.tup [.str [116, 105, 99, 107]]])) hm
  have eO : shF (.tup (S.rules.map encR)) (.str (tickS S).row) (.tup (encC (tickS S).counts)) (S.walls.map D.bl) (S.notes ++ [.tup [.str [116, 105, 99, 107]]]) = shO (tickS S) := rfl
  rw [eO] at hm2 ⊢
  generalize m.set n (shO (tickS S)) = m2 at hm2
  have hrow2 := fun c : Option Cell => fl_row (r := [some (.val (.obj n)), some (.val (.str S.row)), c]) (i := 0) rfl hm2
  have hl := lcL_filter (g := g_Shelf_tick1) (t := t_Shelf_tick2) (f := f_Shelf_tick3) (r0 := [some (.val (.obj n)), some (.val (.str S.row)), none]) (m := m2) (fun d => match d with | .int k => decide ((tickS S).row[k.toNat]? ≠ S.row[k.toNat]?) | _ => false) id (rangeL 0 S.row.length) fun d hd => by
    obtain ⟨i, hi, e⟩ := List.mem_iff_getElem.mp hd
    obtain ⟨hi2, h2⟩ := rangeL_get (List.getElem?_eq_some_iff.mpr ⟨hi, e⟩)
    subst h2
    have hi3 : i < (tickS S).row.length := by
      show i < (beatW (barsS S) S.rules S.row S.counts).1.length
      rw [hbl]
      exact hi2
    refine ⟨_, rfl, ?_, fun _ => rfl⟩
    have e1 : ixD (.str (tickS S).row) (.int (0 + (i : Nat))) = some (.str [(tickS S).row[i]]) := by
      rw [Int.zero_add]
      exact ix_str (List.getElem?_eq_getElem hi3) (lim12 (by
        show (beatW (barsS S) S.rules S.row S.counts).1.length ≤ 1000
        rw [hbl]; omega))
    have e2 : ixD (.str S.row) (.int (0 + (i : Nat))) = some (.str [S.row[i]]) := by
      rw [Int.zero_add]
      exact ix_str (List.getElem?_eq_getElem hi2) hz
    have k1 := k5_lt (hbt.k _ (List.getElem_mem (l := (beatW (barsS S) S.rules S.row S.counts).1) (n := i) hi3))
    have k2 := k5_lt (h.so.k _ (List.getElem_mem hi2))
    have k1' : (tickS S).row[i] < 1114112 := k1
    have e3 : (0 + (i : Int)).toNat = i := by omega
    have hh := hrow2 (some (.val (.int (0 + (i : Nat)))))
    unfold t_Shelf_tick2
    show bindR (bindR (bindR (sFld "Shelf" 0 "row" [some (.val (.obj n)), some (.val (.str S.row)), some (.val (.int (0 + (i : Nat))))] m2) fun x m1 => bindR (R.ok (.int (0 + (i : Nat))) m1) fun y m2 => opIx x y m2) _) _ = _
    rw [hh]
    simp only [bindR_ok, ev_ix, e1, e2, ofO, ev_bin, ev_pk, List.getElem?_cons_succ, List.getElem?_cons_zero]
    have e2' : ixD (.str S.row) (.int (i : Nat)) = some (.str [S.row[i]]) := ix_str (List.getElem?_eq_getElem hi2) hz
    simp [k1', k2, hi2, hi3, e3, e2']
    exact Bool.eq_iff_iff.mpr (by simp)
  have e : (rangeL 0 S.row.length).filter (fun d => match d with | .int k => decide ((tickS S).row[k.toNat]? ≠ S.row[k.toNat]?) | _ => false) = encB ((List.range S.row.length).filter fun p => decide ((tickS S).row[p]? ≠ S.row[p]?)) := by
    unfold rangeL encB
    rw [List.filter_map]
    have : (fun (k : Nat) => D.int (0 + (k : Int))) = fun (k : Nat) => D.int k := by
      funext k
      simp
    rw [this]
    congr 1
  rw [List.map_id, e] at hl
  have hin : inR (S.row.length : Int) = true := decide_eq_true (by omega)
  simp only [ev_ret, ev_Lc]
  rw [ev_Rg (i := (S.row.length : Int)) (m' := m2) (by simp [hz]), if_pos hin]
  simp only [bindR_ok, rangeL_length]
  rw [if_pos ⟨by simpa using hz, by simp⟩]
  simp only [wipeE_cons, wipeE_nil, List.set_cons_succ, List.set_cons_zero]
  rw [show ((S.row.length : Int).toNat) = S.row.length by omega, hl]
  rfl
end
end Dl
namespace Dl
open PySem PySem.Spec PyProof.Rows L2 TL
/-! ### a shelf is made; what is kept -/
def newS (rules : List Rul) : Shf := ⟨rules, [], [], [], []⟩
theorem end_at {m : Sto} {X : MObj} : (m ++ [X])[m.length]? = some X := by simp
theorem end_set {m : Sto} {X Y : MObj} : (m ++ [X]).set m.length Y = m ++ [Y] := by simp
theorem ini_set {m : Sto} {f : Str} {z : Cell} {fs : List (Str × Cell)} {r : Env} {i : Nat} {fc : SCe} (hr : r[i]? = some (some (.val (.obj m.length)))) (he : fc r (m ++ [.ins "Shelf" fs]) = .ok z (m ++ [.ins "Shelf" fs])) (hl : fs.length < 900) : sSetF "Shelf" i f fc r (m ++ [.ins "Shelf" fs]) = .nx r (m ++ [.ins "Shelf" (putC f z fs)]) := by
  unfold sSetF
  rw [he]
  show (match r[i]? with
  | some (some (.val (.obj n))) => (match (m ++ [MObj.ins "Shelf" fs] : Sto)[n]? with
    | some (.ins nm' fs') => if nm' = "Shelf" ∧ fs'.length < 900 then Fl.nx r ((m ++ [MObj.ins "Shelf" fs]).set n (MObj.ins nm' (putC f z fs'))) else .bad
    | _ => .bad)
  | _ => .bad) = _
  rw [hr]
  dsimp only
  rw [end_at]
  show (if ("Shelf" : Str) = "Shelf" ∧ fs.length < 900 then Fl.nx r ((m ++ [MObj.ins "Shelf" fs]).set m.length (MObj.ins "Shelf" (putC f z fs))) else .bad) = _
  rw [if_pos ⟨rfl, hl⟩, end_set]
theorem rules_tup {W : Wld} (h : WOk W) {c0 c1 : Option Cell} (m : Sto) : lcL g_Shelf___init__1 sYes f_Shelf___init__2 [c0, c1, none] (W.rules.map encR) m = .ok (W.rules.map encR) m := by
  have hl := lcL_map (g := g_Shelf___init__1) (t := sYes) (f := f_Shelf___init__2) (r0 := [c0, c1, none]) (m := m) id (W.rules.map encR) fun d hd => by
    obtain ⟨q, _, rfl⟩ := List.mem_map.mp hd
    refine ⟨_, rfl, rfl, ?_⟩
    simp [f_Shelf___init__2, encR]
  rw [hl, List.map_id]
theorem made_okS {W : Wld} (h : WOk W) (m : Sto) : madeF "Shelf" 2 f_Shelf___init__ [.tup (W.rules.map encR)] m = .ok (.obj m.length) (m ++ [shO (newS W.rules)]) := by
  have hrl := h.rl
  have h0 : (0 : Nat) ≤ LIM := by decide
  have hlc := rules_tup h (c0 := some (.val (.obj m.length))) (c1 := some (.val (.tup (W.rules.map encR))))
  have e : f_Shelf___init__ [.obj m.length, .tup (W.rules.map encR)] (m ++ [.ins "Shelf" []]) = .ok .non (m ++ [shO (newS W.rules)]) := by
    show ofFl (b_Shelf___init__ [some (.val (.obj m.length)), some (.val (.tup (W.rules.map encR))), none] (m ++ [.ins "Shelf" []])) = _
    unfold b_Shelf___init__
    rw [seq_nx (r1 := [some (.val (.obj m.length)), some (.val (.tup (W.rules.map encR))), none]) (m1 := m ++ [.ins "Shelf" []]) (by simp [need_rules_ok h])]
    rw [seq_nx (r1 := [some (.val (.obj m.length)), some (.val (.tup (W.rules.map encR))), none]) (m1 := m ++ [.ins "Shelf" [("rules", .val (.tup (W.rules.map encR)))]]) (by
      refine ini_set (fs := []) (z := .val (.tup (W.rules.map encR))) rfl ?_ (show (0 : Nat) < 900 by decide)
      have hz : (W.rules.map encR).length ≤ LIM := lim12 (by simp; omega)
      simp only [ev_cV, ev_call, ev_cons, ev_nil, ev_Lc, ev_It, ev_var, List.getElem?_cons_succ, List.getElem?_cons_zero, bindR_ok, itD_t, ofO]
      rw [if_pos ⟨hz, by simp⟩]
      simp only [wipeE_cons, wipeE_nil, List.set_cons_succ, List.set_cons_zero]
      rw [hlc]
      rfl)]
    rw [seq_nx (r1 := [some (.val (.obj m.length)), some (.val (.tup (W.rules.map encR))), none]) (m1 := m ++ [.ins "Shelf" [("rules", .val (.tup (W.rules.map encR))), ("row", .val (.str []))]]) (by exact ini_set (fs := [("rules", .val (.tup (W.rules.map encR)))]) (z := .val (.str [])) rfl rfl (show (1 : Nat) < 900 by decide))]
    rw [seq_nx (r1 := [some (.val (.obj m.length)), some (.val (.tup (W.rules.map encR))), none]) (m1 := m ++ [.ins "Shelf" [("rules", .val (.tup (W.rules.map encR))), ("row", .val (.str [])), ("counts", .val (.tup []))]]) (by exact ini_set (fs := [("rules", .val (.tup (W.rules.map encR))), ("row", .val (.str []))]) (z := .val (.tup [])) rfl (by simp [h0]) (show (2 : Nat) < 900 by decide))]
    rw [seq_nx (r1 := [some (.val (.obj m.length)), some (.val (.tup (W.rules.map encR))), none]) (m1 := m ++ [.ins "Shelf" [("rules", .val (.tup (W.rules.map encR))), ("row", .val (.str [])), ("counts", .val (.tup [])), ("walls", .lst [])]]) (by exact ini_set (fs := [("rules", .val (.tup (W.rules.map encR))), ("row", .val (.str [])), ("counts", .val (.tup []))]) (z := .lst []) rfl (by simp [h0]) (show (3 : Nat) < 900 by decide))]
    have e9 := ini_set (m := m) (f := "notes") (z := .lst []) (fs := [("rules", .val (.tup (W.rules.map encR))), ("row", .val (.str [])), ("counts", .val (.tup [])), ("walls", .lst [])]) (r := [some (.val (.obj m.length)), some (.val (.tup (W.rules.map encR))), none]) (i := 0) (fc := cL aNil) rfl (by simp [h0]) (show (4 : Nat) < 900 by decide)
    rw [e9]
    rfl
  unfold madeF
  rw [ev_callF, if_pos (show ([D.obj m.length, .tup (W.rules.map encR)] : List D).length = 2 from rfl), e]
theorem put_len {α : Type} {l : List α} {p : Nat} {x : α} (hp : p ≤ l.length) : (l.take p ++ [x] ++ l.drop p).length = l.length + 1 := by
  simp
  omega
theorem ShOk.new {W : Wld} (h : WOk W) : ShOk (newS W.rules) := ⟨⟨by simp [newS], by simp [newS], rfl, by simp [newS]⟩, rfl, h.rl, h.r, by simp [newS]⟩
theorem ShOk.put {S : Shf} {p k : Nat} (h : ShOk S) (hp : p ≤ S.row.length) (hk : K5 k) (h12 : S.row.length < 12) (hn : S.notes.length < 1000) : ShOk (putS S p k) := by
  refine ⟨⟨?_, fun x hx => ?_, ?_, fun c hc => ?_⟩, ?_, h.rl, h.r, ?_⟩
  · show (S.row.take p ++ [k] ++ S.row.drop p).length ≤ 12
    rw [put_len hp]
    omega
  · have hx : x ∈ S.row.take p ++ [k] ++ S.row.drop p := hx
    simp only [List.append_assoc, List.mem_append, List.mem_cons, List.not_mem_nil, or_false] at hx
    rcases hx with hx | rfl | hx
    · exact h.so.k x (List.mem_of_mem_take hx)
    · exact hk
    · exact h.so.k x (List.mem_of_mem_drop hx)
  · show (S.counts.take p ++ [List.replicate S.rules.length 0] ++ S.counts.drop p).length = (S.row.take p ++ [k] ++ S.row.drop p).length
    rw [put_len hp, put_len (by rw [h.so.cl]; exact hp), h.so.cl]
  · have hc : c ∈ S.counts.take p ++ [List.replicate S.rules.length 0] ++ S.counts.drop p := hc
    simp only [List.append_assoc, List.mem_append, List.mem_cons, List.not_mem_nil, or_false] at hc
    rcases hc with hc | rfl | hc
    · exact h.so.c c (List.mem_of_mem_take hc)
    · show (List.replicate S.rules.length 0).length = S.rules.length
      simp
    · exact h.so.c c (List.mem_of_mem_drop hc)
  · show (S.walls.take p ++ [false] ++ S.walls.drop p).length = (S.row.take p ++ [k] ++ S.row.drop p).length
    rw [put_len hp, put_len (by rw [h.wl]; exact hp), h.wl]
  · show (S.notes ++ [_]).length ≤ 1000
    rw [List.length_append, List.length_singleton]
    omega
theorem ShOk.bar {S : Shf} {p : Nat} (h : ShOk S) (hn : S.notes.length < 1000) : ShOk (barS S p) :=
  ⟨h.so, by show (S.walls.set p true).length = S.row.length; rw [List.length_set, h.wl], h.rl, h.r, by show (S.notes ++ [_]).length ≤ 1000; rw [List.length_append, List.length_singleton]; omega⟩
theorem tick_len (S : Shf) : (tickS S).row.length = S.row.length := turnKs_length _ _ _ (cntAll_length ..).symm
theorem ShOk.tick {S : Shf} (h : ShOk S) (hn : S.notes.length < 1000) : ShOk (tickS S) :=
  ⟨h.so.beat h.r, by show S.walls.length = _; rw [h.wl]; exact (tick_len S).symm, h.rl, h.r, by show (S.notes ++ [_]).length ≤ 1000; rw [List.length_append, List.length_singleton]; omega⟩
end Dl
namespace Dl
open PySem PySem.Spec PyProof.Rows L2 TL
/-! ### deeds, done and done again -/
section
variable {S : Shf} {m : Sto} {n : Nat}
theorem deeds_okS (hm : m[n]? = some (shO S)) : f_Shelf_deeds [.obj n] m = .ok (.lst S.notes) m := by
  show ofFl (b_Shelf_deeds [some (.val (.obj n))] m) = _
  unfold b_Shelf_deeds
  have e : sListF "Shelf" 0 "notes" [some (.val (.obj n))] m = .ok (.lst S.notes) m := by
    unfold sListF
    rw [at_fld (r := [some (.val (.obj n))]) (i := 0) rfl hm (z := .lst S.notes) rfl]
  simp [e]
end
inductive Deed where
  | put (p k : Nat)
  | bar (p : Nat)
  | tick
def encDd : Deed → D
  | .put p k => .tup [.str [112, 117, 116], .int p, .str [k]]
  | .bar p => .tup [.str [98, 97, 114], .int p]
  | .tick => .tup [.str [116, 105, 99, 107]]
def stepS (S : Shf) : Deed → Shf
  | .put p k => putS S p k
  | .bar p => barS S p
  | .tick => tickS S
def CanS (S : Shf) : Deed → Prop
  | .put p k => p ≤ S.row.length ∧ K5 k ∧ S.row.length < 12
  | .bar p => p < S.row.length ∧ S.walls[p]? = some false
  | .tick => True
theorem step_notes (S : Shf) (d : Deed) : (stepS S d).notes = S.notes ++ [encDd d] := by cases d <;> rfl
theorem ShOk.step {S : Shf} {d : Deed} (h : ShOk S) (c : CanS S d) (hn : S.notes.length < 1000) : ShOk (stepS S d) := by
  cases d with
  | put p k => exact h.put c.1 c.2.1 c.2.2 hn
  | bar p => exact h.bar hn
  | tick => exact h.tick hn
def Runs : Shf → List Deed → Prop
  | _, [] => True
  | S, d :: ds => CanS S d ∧ Runs (stepS S d) ds
theorem Runs.snoc : ∀ {ds : List Deed} {S : Shf} {d : Deed}, Runs S ds → CanS (ds.foldl stepS S) d → Runs S (ds ++ [d])
  | [], _, _, _, c => ⟨c, trivial⟩
  | _ :: ds, S, d, h, c => ⟨h.1, Runs.snoc (ds := ds) h.2 c⟩
theorem run_notes : ∀ (ds : List Deed) (S : Shf), (ds.foldl stepS S).notes = S.notes ++ ds.map encDd
  | [], S => by simp
  | d :: ds, S => by
    rw [List.foldl_cons, run_notes ds, step_notes]
    simp
theorem do_ok {S : Shf} {m : Sto} {n : Nat} {d : Deed} (h : ShOk S) (c : CanS S d) (hm : m[n]? = some (shO S)) : f_do [.obj n, encDd d] m = .ok .non (m.set n (shO (stepS S d))) := by
  cases d with
  | put p k =>
    have hp := put_okS h hm c.1 c.2.1 c.2.2
    have hmt := mt_call (r := [some (.val (.obj n)), some (.val (encDd (.put p k))), some (.val (.str [112, 117, 116])), some (.val (.lst [.int p, .str [k]]))]) (i := 0) (mm := "put") (k := 3) (φ := f_Shelf_put) (gl := aCons (sBin opIx (sPk 3) (sC (.int 0))) (aCons (sBin opIx (sPk 3) (sC (.int 1))) (aNil))) rfl hm rfl
    have a1 : atI [D.int p, .str [k]] 1 = some (.str [k]) := rfl
    show ofFl (b_do [some (.val (.obj n)), some (.val (encDd (.put p k))), none, none] m) = _
    unfold b_do
    rw [seq_nx (r1 := [some (.val (.obj n)), some (.val (encDd (.put p k))), some (.val (.str [112, 117, 116])), some (.val (.lst [.int p, .str [k]]))]) (m1 := m) (by rfl)]
    rw [ev_ifS]
    have e1 : sB (sBin opEq (sPk 2) (sC (.str [112, 117, 116]))) [some (.val (.obj n)), some (.val (encDd (.put p k))), some (.val (.str [112, 117, 116])), some (.val (.lst [.int p, .str [k]]))] m = .ok true m := rfl
    rw [e1, bindS_ok, if_pos rfl, ev_expr, hmt]
    simp [a1, hp, stepS]
  | bar p =>
    have hp := bar_okS h hm c.1 c.2
    have hmt := mt_call (r := [some (.val (.obj n)), some (.val (encDd (.bar p))), some (.val (.str [98, 97, 114])), some (.val (.lst [.int p]))]) (i := 0) (mm := "bar") (k := 2) (φ := f_Shelf_bar) (gl := aCons (sBin opIx (sPk 3) (sC (.int 0))) (aNil)) rfl hm rfl
    show ofFl (b_do [some (.val (.obj n)), some (.val (encDd (.bar p))), none, none] m) = _
    unfold b_do
    rw [seq_nx (r1 := [some (.val (.obj n)), some (.val (encDd (.bar p))), some (.val (.str [98, 97, 114])), some (.val (.lst [.int p]))]) (m1 := m) (by rfl)]
    have e1 : sB (sBin opEq (sPk 2) (sC (.str [112, 117, 116]))) [some (.val (.obj n)), some (.val (encDd (.bar p))), some (.val (.str [98, 97, 114])), some (.val (.lst [.int p]))] m = .ok false m := rfl
    have e2 : sB (sBin opEq (sPk 2) (sC (.str [116, 97, 107, 101]))) [some (.val (.obj n)), some (.val (encDd (.bar p))), some (.val (.str [98, 97, 114])), some (.val (.lst [.int p]))] m = .ok false m := rfl
    have e3 : sB (sBin opEq (sPk 2) (sC (.str [98, 97, 114]))) [some (.val (.obj n)), some (.val (encDd (.bar p))), some (.val (.str [98, 97, 114])), some (.val (.lst [.int p]))] m = .ok true m := rfl
    rw [ev_ifS, e1, bindS_ok, if_neg Bool.false_ne_true, ev_ifS, e2, bindS_ok, if_neg Bool.false_ne_true, ev_ifS, e3, bindS_ok, if_pos rfl, ev_expr, hmt]
    simp [hp, stepS]
  | tick =>
    have hp := tick_okS h hm
    have hmt := mt_call (r := [some (.val (.obj n)), some (.val (encDd .tick)), some (.val (.str [116, 105, 99, 107])), some (.val (.lst []))]) (i := 0) (mm := "tick") (k := 1) (φ := f_Shelf_tick) (gl := aNil) rfl hm rfl
    show ofFl (b_do [some (.val (.obj n)), some (.val (encDd .tick)), none, none] m) = _
    unfold b_do
    rw [seq_nx (r1 := [some (.val (.obj n)), some (.val (encDd .tick)), some (.val (.str [116, 105, 99, 107])), some (.val (.lst []))]) (m1 := m) (by rfl)]
    have e1 : sB (sBin opEq (sPk 2) (sC (.str [112, 117, 116]))) [some (.val (.obj n)), some (.val (encDd .tick)), some (.val (.str [116, 105, 99, 107])), some (.val (.lst []))] m = .ok false m := rfl
    have e2 : sB (sBin opEq (sPk 2) (sC (.str [116, 97, 107, 101]))) [some (.val (.obj n)), some (.val (encDd .tick)), some (.val (.str [116, 105, 99, 107])), some (.val (.lst []))] m = .ok false m := rfl
    have e3 : sB (sBin opEq (sPk 2) (sC (.str [98, 97, 114]))) [some (.val (.obj n)), some (.val (encDd .tick)), some (.val (.str [116, 105, 99, 107])), some (.val (.lst []))] m = .ok false m := rfl
    have e4 : sB (sBin opEq (sPk 2) (sC (.str [117, 110, 98, 97, 114]))) [some (.val (.obj n)), some (.val (encDd .tick)), some (.val (.str [116, 105, 99, 107])), some (.val (.lst []))] m = .ok false m := rfl
    rw [ev_ifS, e1, bindS_ok, if_neg Bool.false_ne_true, ev_ifS, e2, bindS_ok, if_neg Bool.false_ne_true, ev_ifS, e3, bindS_ok, if_neg Bool.false_ne_true, ev_ifS, e4, bindS_ok, if_neg Bool.false_ne_true, ev_expr, hmt]
    simp only [ev_nil, bindR_ok, ev_callF]
    rw [if_pos (show ([D.obj n] : List D).length = 1 from rfl), hp]
    rfl
theorem again_cond (d : Deed) {c0 c1 c2 c3 : Option Cell} (m : Sto) : sIfS (sOr (sB (sBin opEq (sCall fLen (aCons (sPk 4) (aNil))) (sC (.int 0)))) (sB (sBin opNe (sTabGet [([112, 117, 116], 3), ([116, 97, 107, 101], 2), ([98, 97, 114], 2), ([117, 110, 98, 97, 114], 2), ([116, 105, 99, 107], 1)] (sBin opIx (sPk 4) (sC (.int 0)))) (sCall fLen (aCons (sPk 4) (aNil)))))) ((fun _ _ => .bad)) (sSkip) [c0, c1, c2, c3, some (.val (encDd d)), none] m = .nx [c0, c1, c2, c3, some (.val (encDd d)), none] m := by
  cases d <;> rfl
theorem again_loop {m : Sto} {c0 c1 : Option Cell} : ∀ (ds : List Deed) (i : Nat) (S : Shf), ShOk S → Runs S ds → S.notes.length + ds.length ≤ 1000 →
    forL g_again2 b_again1 (enumL i (ds.map encDd)) [c0, c1, some (.val (.obj m.length)), none, none, none] (m ++ [shO S]) = .nx [c0, c1, some (.val (.obj m.length)), none, none, none] (m ++ [shO (ds.foldl stepS S)])
  | [], _, S, _, _, _ => rfl
  | d :: ds, i, S, h, hr, hn => by
    simp only [List.length_cons] at hn
    have hd := do_ok h hr.1 (m := m ++ [shO S]) (n := m.length) end_at
    rw [end_set] at hd
    have e : b_again1 [c0, c1, some (.val (.obj m.length)), some (.val (.int i)), some (.val (encDd d)), none] (m ++ [shO S]) = .nx [c0, c1, some (.val (.obj m.length)), none, none, none] (m ++ [shO (stepS S d)]) := by
      unfold b_again1
      rw [seq_nx (again_cond d (m ++ [shO S]))]
      rw [seq_nx (r1 := [c0, c1, some (.val (.obj m.length)), some (.val (.int i)), some (.val (encDd d)), none]) (m1 := m ++ [shO (stepS S d)]) (by
        unfold sTry0
        have e1 : sExpr (sCall (callF 2 f_do) (aCons (sVar 2) (aCons (sVar 4) (aNil)))) [c0, c1, some (.val (.obj m.length)), some (.val (.int i)), some (.val (encDd d)), none] (m ++ [shO S]) = .nx [c0, c1, some (.val (.obj m.length)), some (.val (.int i)), some (.val (encDd d)), none] (m ++ [shO (stepS S d)]) := by
          simp [hd]
        rw [e1])]
      rfl
    show forL g_again2 b_again1 (.tup [.int i, encDd d] :: enumL (i + 1) (ds.map encDd)) _ _ = _
    rw [forL_step (r' := [c0, c1, some (.val (.obj m.length)), some (.val (.int i)), some (.val (encDd d)), none]) rfl e]
    exact again_loop ds (i + 1) (stepS S d) (h.step hr.1 (by omega)) hr.2 (by rw [step_notes, List.length_append, List.length_singleton]; omega)
theorem again_ok {W : Wld} (h : WOk W) {ds : List Deed} (hr : Runs (newS W.rules) ds) (hn : ds.length ≤ 1000) (m : Sto) : f_again [.tup (W.rules.map encR), .lst (ds.map encDd)] m = .ok (.obj m.length) (m ++ [shO (ds.foldl stepS (newS W.rules))]) := by
  have hl := again_loop (m := m) (c0 := some (.val (.tup (W.rules.map encR)))) (c1 := some (.val (.lst (ds.map encDd)))) ds 0 (newS W.rules) (ShOk.new h) hr (by simpa [newS] using hn)
  show ofFl (b_again [some (.val (.tup (W.rules.map encR))), some (.val (.lst (ds.map encDd))), none, none, none, none] m) = _
  unfold b_again
  rw [seq_nx (r1 := [some (.val (.tup (W.rules.map encR))), some (.val (.lst (ds.map encDd))), some (.val (.obj m.length)), none, none, none]) (m1 := m ++ [shO (newS W.rules)]) (by
    show bindS _ (bindR (bindR (aCons (sVar 0) aNil [some (.val (.tup (W.rules.map encR))), some (.val (.lst (ds.map encDd))), none, none, none, none] m) fun ds m1 => madeF "Shelf" 2 f_Shelf___init__ ds m1) _) _ = _
    rw [show aCons (sVar 0) aNil [some (.val (.tup (W.rules.map encR))), some (.val (.lst (ds.map encDd))), none, none, none, none] m = .ok [.tup (W.rules.map encR)] m from rfl, bindR_ok, made_okS h]
    rfl)]
  rw [seq_nx (r1 := [some (.val (.tup (W.rules.map encR))), some (.val (.lst (ds.map encDd))), some (.val (.obj m.length)), none, none, none]) (m1 := m ++ [shO (ds.foldl stepS (newS W.rules))]) (by
    rw [ev_for, ev_En (d := .lst (ds.map encDd)) (m := m ++ [shO (newS W.rules)]) rfl]
    simp only [itD_l, bindS_ok]
    exact hl)]
  rfl
end Dl
namespace Dl
open PySem PySem.Spec PyProof.Rows L2 TL
/-! ### jars put in in any turn; bars put -/
def inT (n : Nat) (T : List Nat) : List Nat := (List.range n).filter fun p => decide (p ∈ T)
def selR (row : List Nat) (T : List Nat) : List Nat := (inT row.length T).map fun p => row.getD p 0
theorem range_cut {n p : Nat} (hp : p < n) : List.range n = List.range p ++ p :: (List.range (n - p - 1)).map (p + 1 + ·) := by
  obtain ⟨k, rfl⟩ : ∃ k, n = p + (k + 1) := ⟨n - p - 1, by omega⟩
  rw [List.range_add, List.range_succ_eq_map, List.map_cons, List.map_map]
  have e1 : p + (k + 1) - p - 1 = k := by omega
  rw [e1]
  congr 1
  rw [Nat.add_zero]
  congr 1
  refine List.map_congr_left fun a _ => ?_
  show p + (a + 1) = p + 1 + a
  omega
theorem inT_put {n p : Nat} {T : List Nat} (hp : p < n) (hT : p ∉ T) (nd : T.Nodup) (hlt : ∀ q ∈ T, q < n) : inT n (T ++ [p]) = (inT n T).take (T.filter (· < p)).length ++ [p] ++ (inT n T).drop (T.filter (· < p)).length := by
  have eA : ∀ U : List Nat, (∀ q, q ≠ p → (q ∈ U ↔ q ∈ T)) → (List.range p).filter (fun q => decide (q ∈ U)) = (List.range p).filter (fun q => decide (q ∈ T)) := fun U hU => by
    refine List.filter_congr fun q hq => ?_
    have := List.mem_range.mp hq
    rw [decide_eq_decide]
    exact hU q (by omega)
  have eB : ∀ U : List Nat, (∀ q, q ≠ p → (q ∈ U ↔ q ∈ T)) → ((List.range (n - p - 1)).map (p + 1 + ·)).filter (fun q => decide (q ∈ U)) = ((List.range (n - p - 1)).map (p + 1 + ·)).filter (fun q => decide (q ∈ T)) := fun U hU => by
    refine List.filter_congr fun q hq => ?_
    obtain ⟨a, _, rfl⟩ := List.mem_map.mp hq
    rw [decide_eq_decide]
    exact hU _ (by omega)
  have hU : ∀ q, q ≠ p → (q ∈ T ++ [p] ↔ q ∈ T) := fun q hq => by simp [hq]
  have e1 : inT n T = (List.range p).filter (fun q => decide (q ∈ T)) ++ ((List.range (n - p - 1)).map (p + 1 + ·)).filter (fun q => decide (q ∈ T)) := by
    unfold inT
    rw [range_cut hp, List.filter_append, List.filter_cons, if_neg (by simpa using hT)]
  have e2 : inT n (T ++ [p]) = (List.range p).filter (fun q => decide (q ∈ T)) ++ p :: ((List.range (n - p - 1)).map (p + 1 + ·)).filter (fun q => decide (q ∈ T)) := by
    unfold inT
    rw [range_cut hp, List.filter_append, List.filter_cons, if_pos (by simp), eA _ hU, eB _ hU]
  have e3 : (T.filter (· < p)).length = ((List.range p).filter (fun q => decide (q ∈ T))).length := by
    refine List.Perm.length_eq ((List.perm_ext_iff_of_nodup (nd.filter _) (List.nodup_range.filter _)).mpr fun q => ?_)
    simp only [List.mem_filter, List.mem_range, decide_eq_true_eq]
    exact And.comm
  rw [e3, e1, e2, List.take_left, List.drop_left]
  simp
theorem selR_put {row : List Nat} {p : Nat} {T : List Nat} (hp : p < row.length) (hT : p ∉ T) (nd : T.Nodup) (hlt : ∀ q ∈ T, q < row.length) : selR row (T ++ [p]) = (selR row T).take (T.filter (· < p)).length ++ [row.getD p 0] ++ (selR row T).drop (T.filter (· < p)).length := by
  unfold selR
  rw [inT_put hp hT nd hlt]
  simp [List.map_take, List.map_drop]
theorem inT_len {n : Nat} {T : List Nat} (nd : T.Nodup) (hlt : ∀ q ∈ T, q < n) : (inT n T).length = T.length := by
  refine List.Perm.length_eq ((List.perm_ext_iff_of_nodup (List.nodup_range.filter _) nd).mpr fun q => ?_)
  simp only [List.mem_filter, List.mem_range, decide_eq_true_eq]
  exact ⟨fun h => h.2, fun h => ⟨hlt q h, h⟩⟩
theorem selR_all {row T : List Nat} (h : ∀ q, q < row.length → q ∈ T) : selR row T = row := by
  unfold selR inT
  rw [List.filter_eq_self.mpr fun q hq => decide_eq_true (h q (List.mem_range.mp hq))]
  refine List.ext_getElem (by simp) fun i h1 h2 => ?_
  simp [List.getD, h2]
theorem filter_sub : ∀ {r l : List Nat}, r.Nodup → l.Sublist r → r.filter (fun p => decide (p ∈ l)) = l
  | [], l, _, h => by
    have := List.sublist_nil.mp h
    subst this
    rfl
  | a :: r, l, nd, h => by
    obtain ⟨na, nr⟩ := List.nodup_cons.mp nd
    cases h with
    | cons _ h =>
      have : a ∉ l := fun z => na (h.subset z)
      rw [List.filter_cons, if_neg (by simpa using this)]
      exact filter_sub nr h
    | @cons_cons l' _ _ h =>
      rw [List.filter_cons, if_pos (by simp)]
      congr 1
      rw [List.filter_congr (q := fun p => decide (p ∈ l')) fun q hq => ?_]
      · exact filter_sub nr h
      · rw [decide_eq_decide]
        have : q ≠ a := fun e => na (e ▸ hq)
        simp [this]
/-- how a shelf stands while its jars are put in: those at T are in -/
structure PutI (W : Wld) (T : List Nat) (S : Shf) (ds : List Deed) : Prop where
  row : S.row = selR W.row T
  cs : S.counts = S.row.map fun _ => List.replicate W.rules.length 0
  wl : S.walls = S.row.map fun _ => false
  ru : S.rules = W.rules
  fo : S = ds.foldl stepS (newS W.rules)
  rn : Runs (newS W.rules) ds
  ln : ds.length = T.length
  ok : ShOk S
theorem PutI.new {W : Wld} (h : WOk W) : PutI W [] (newS W.rules) [] := by
  refine ⟨?_, rfl, rfl, rfl, rfl, trivial, rfl, ShOk.new h⟩
  show [] = selR W.row []
  unfold selR inT
  simp
theorem map_put {α β : Type} {l : List α} {n : Nat} {x : α} {c : β} : (l.take n ++ [x] ++ l.drop n).map (fun _ => c) = (l.map fun _ => c).take n ++ [c] ++ (l.map fun _ => c).drop n := by
  simp [List.map_take, List.map_drop]
theorem PutI.put {W : Wld} {T : List Nat} {S : Shf} {ds : List Deed} (h : PutI W T S ds) (hW : WOk W) {p : Nat} (hp : p < W.row.length) (hT : p ∉ T) (nd : T.Nodup) (hlt : ∀ q ∈ T, q < W.row.length) (hl : T.length < W.row.length) :
    CanS S (.put (T.filter (· < p)).length (W.row.getD p 0)) ∧ PutI W (T ++ [p]) (putS S (T.filter (· < p)).length (W.row.getD p 0)) (ds ++ [.put (T.filter (· < p)).length (W.row.getD p 0)]) := by
  have h12 := hW.len
  have hrl : S.row.length = T.length := by rw [h.row, selR, List.length_map, inT_len nd hlt]
  have hn : S.notes.length = ds.length := by
    rw [h.fo, run_notes]
    simp [newS]
  have hk : K5 (W.row.getD p 0) := by
    have e : W.row.getD p 0 = W.row[p] := by simp [List.getD, hp]
    rw [e]
    exact hW.k _ (List.getElem_mem hp)
  have hc : CanS S (.put (T.filter (· < p)).length (W.row.getD p 0)) := ⟨by rw [hrl]; exact List.length_filter_le _ _, hk, by omega⟩
  refine ⟨hc, ?_, ?_, ?_, h.ru, ?_, h.rn.snoc ?_, by simp [h.ln], h.ok.put hc.1 hk hc.2.2 (by rw [hn, h.ln]; omega)⟩
  · show S.row.take _ ++ [_] ++ S.row.drop _ = _
    rw [selR_put hp hT nd hlt, h.row]
  · show S.counts.take _ ++ [List.replicate S.rules.length 0] ++ S.counts.drop _ = (S.row.take _ ++ [_] ++ S.row.drop _).map _
    rw [map_put, h.cs, h.ru]
  · show S.walls.take _ ++ [false] ++ S.walls.drop _ = (S.row.take _ ++ [_] ++ S.row.drop _).map _
    rw [map_put, h.wl]
  · rw [List.foldl_append, ← h.fo]
    rfl
  · rw [← h.fo]
    exact hc
/-- bars put -/
structure BarI (W : Wld) (P : List Nat) (S : Shf) (ds : List Deed) : Prop where
  row : S.row = W.row
  cs : S.counts = zer W.rules.length W.row
  wl : S.walls = (List.range W.row.length).map fun p => decide (p ∈ P)
  ru : S.rules = W.rules
  fo : S = ds.foldl stepS (newS W.rules)
  rn : Runs (newS W.rules) ds
  ln : ds.length = W.row.length + P.length
  ok : ShOk S
theorem PutI.bars {W : Wld} {T : List Nat} {S : Shf} {ds : List Deed} (h : PutI W T S ds) (hT : ∀ q, q < W.row.length → q ∈ T) (hl : T.length = W.row.length) : BarI W [] S ds := by
  have e := h.row.trans (selR_all hT)
  refine ⟨e, by rw [h.cs, e]; rfl, ?_, h.ru, h.fo, h.rn, by rw [h.ln, hl]; rfl, h.ok⟩
  rw [h.wl, e]
  refine List.ext_getElem (by simp) fun i h1 h2 => by simp
theorem BarI.bar {W : Wld} {P : List Nat} {S : Shf} {ds : List Deed} (h : BarI W P S ds) (hW : WOk W) {g : Nat} (hg : g < W.row.length) (hP : g ∉ P) (hl : P.length ≤ 100) : CanS S (.bar g) ∧ BarI W (P ++ [g]) (barS S g) (ds ++ [.bar g]) := by
  have h12 := hW.len
  have hn : S.notes.length = ds.length := by
    rw [h.fo, run_notes]
    simp [newS]
  have hc : CanS S (.bar g) := ⟨by rw [h.row]; exact hg, by rw [h.wl, List.getElem?_map, List.getElem?_range hg]; simp [hP]⟩
  refine ⟨hc, h.row, h.cs, ?_, h.ru, ?_, h.rn.snoc ?_, by simp [h.ln]; omega, h.ok.bar (by rw [hn, h.ln]; omega)⟩
  · show S.walls.set g true = _
    rw [h.wl]
    refine List.ext_getElem (by simp) fun i h1 h2 => ?_
    rw [List.getElem_set]
    simp only [List.getElem_map, List.getElem_range, List.mem_append, List.mem_cons, List.not_mem_nil, or_false]
    by_cases e : g = i
    · subst e
      simp
    · have e' : ¬ i = g := fun z => e z.symm
      simp [e, e']
  · rw [List.foldl_append, ← h.fo]
    rfl
  · rw [← h.fo]
    exact hc
theorem BarI.all {W : Wld} {S : Shf} {ds : List Deed} (h : BarI W W.bars S ds) (hW : WOk W) : barsS S = W.bars := by
  unfold barsS
  rw [h.row]
  rw [List.filter_congr (q := fun p => decide (p ∈ W.bars)) fun p hp => ?_]
  · exact filter_sub List.nodup_range hW.bars
  · have := List.mem_range.mp hp
    rw [h.wl, List.getElem?_map, List.getElem?_range (by omega)]
    rfl
/-- beats gone -/
structure TickI (W : Wld) (b : Nat) (S : Shf) (ds : List Deed) : Prop where
  row : S.row = (stW W b).1
  cs : S.counts = (stW W b).2
  bs : barsS S = W.bars
  ru : S.rules = W.rules
  fo : S = ds.foldl stepS (newS W.rules)
  rn : Runs (newS W.rules) ds
  ln : ds.length = W.row.length + W.bars.length + b
  ok : ShOk S
theorem BarI.ticks {W : Wld} {S : Shf} {ds : List Deed} (h : BarI W W.bars S ds) (hW : WOk W) : TickI W 0 S ds := ⟨h.row, h.cs, h.all hW, h.ru, h.fo, h.rn, by rw [h.ln]; rfl, h.ok⟩
theorem TickI.tick {W : Wld} {b : Nat} {S : Shf} {ds : List Deed} (h : TickI W b S ds) (hW : WOk W) (hb : b ≤ 500) : TickI W (b + 1) (tickS S) (ds ++ [.tick]) := by
  have h12 := hW.len
  have hbl : W.bars.length ≤ 11 := by have := hW.bars.length_le; simp at this; omega
  have hn : S.notes.length = ds.length := by
    rw [h.fo, run_notes]
    simp [newS]
  have e : (beatW (barsS S) S.rules S.row S.counts) = stW W (b + 1) := by
    rw [h.bs, h.ru, h.row, h.cs]
    rfl
  refine ⟨congrArg Prod.fst e, congrArg Prod.snd e, ?_, h.ru, ?_, h.rn.snoc trivial, by simp [h.ln]; omega, h.ok.tick (by rw [hn, h.ln]; omega)⟩
  · have e2 : barsS (tickS S) = barsS S := by
      unfold barsS
      rw [tick_len]
      rfl
    rw [e2, h.bs]
  · rw [List.foldl_append, ← h.fo]
    rfl
end Dl
namespace Dl
open PySem PySem.Spec PyProof.Rows L2 TL

/-! ### alike -/
theorem isi1 {d : D} {a n : String} {b : Bool} {m : Sto} (h : tyD d = some a) (k : L2.kitB a n = some b) : fIsi [d, .cst (.ty n)] m = .ok (.bl b) m := by
  show (match tyD d with | some a => ofO ((L2.kitB a n).map D.bl) m | none => .bad) = _
  rw [h]
  dsimp only
  rw [k]
  rfl
theorem isi2 {d : D} {a n1 n2 : String} {b : Bool} {m : Sto} (h : tyD d = some a) (k : isiAny a [n1, n2] = some b) : fIsi [d, .tup [.cst (.ty n1), .cst (.ty n2)]] m = .ok (.bl b) m := by
  show (match tyD d, tyNs [.cst (.ty n1), .cst (.ty n2)] with | some a, some ns => ofO ((isiAny a ns).map D.bl) m | _, _ => .bad) = _
  rw [h, show tyNs [.cst (.ty n1), .cst (.ty n2)] = some [n1, n2] from rfl]
  dsimp only
  rw [k]
  rfl
theorem okN_up : ∀ (n : Nat) (d : D), okN n d = true → ∀ k, n ≤ k → okN k d = true
  | n, .non, _, k, _ => by simp
  | n, .bl _, _, k, _ => by simp
  | n, .int _, _, k, _ => by simp
  | n, .str s, h, k, _ => by simpa using h
  | 0, .tup l, h, k, _ => by cases h
  | 0, .lst l, h, k, _ => by cases h
  | n + 1, .tup l, h, k, hk => by
    obtain ⟨j, rfl⟩ : ∃ j, k = j + 1 := ⟨k - 1, by omega⟩
    rw [okN_tup, List.all_eq_true] at h ⊢
    exact fun x hx => okN_up n x (h x hx) j (by omega)
  | n + 1, .lst l, h, k, hk => by
    obtain ⟨j, rfl⟩ : ∃ j, k = j + 1 := ⟨k - 1, by omega⟩
    rw [okN_lst, List.all_eq_true] at h ⊢
    exact fun x hx => okN_up n x (h x hx) j (by omega)
  | n, .dct _ _, h, k, _ => by cases n <;> cases h
  | n, .obj _, h, k, _ => by cases n <;> cases h
  | n, .cst _, h, k, _ => by cases n <;> cases h
  | n, .own _ _, h, k, _ => by cases n <;> cases h
  | n, .fn _ _, h, k, _ => by cases n <;> cases h
  | n, .erx _ _ _ _, h, k, _ => by cases n <;> cases h
def alikeB : Fd → Fd := fun φ => fD n__law_alike (b__law_alike φ)
theorem alike_comp {φ : Fd} {l : List D} {c0 c1 : Option Cell} {m : Sto} (hl : l.length ≤ LIM) (hr : inR l.length = true) (hφ : ∀ d ∈ l, φ [d, d] m = .ok (.bl true) m) (h0 : ∀ i : Int, sBin opIx (sPk 0) (sPk 2) [c0, c1, some (.val (.int i))] m = ofO (atI l i) m) (h1 : ∀ i : Int, sBin opIx (sPk 1) (sPk 2) [c0, c1, some (.val (.int i))] m = ofO (atI l i) m) :
    lcL g__law_alike1 (t__law_alike2 φ) (f__law_alike3 φ) [c0, c1, none] (rangeL 0 l.length) m = .ok [] m := by
  have e := lcL_filter (g := g__law_alike1) (t := t__law_alike2 φ) (f := f__law_alike3 φ) (r0 := [c0, c1, none]) (m := m) (fun _ => false) id (rangeL 0 l.length) fun d hd => by
    obtain ⟨k, hkk⟩ := List.mem_iff_getElem?.mp hd
    have hk := (rangeL_get hkk).1
    have ed := (rangeL_get hkk).2
    subst ed
    rw [Int.zero_add]
    refine ⟨[c0, c1, some (.val (.int (k : Nat)))], rfl, ?_, fun z => by cases z⟩
    have g0 := h0 (k : Nat)
    have g1 := h1 (k : Nat)
    rw [atI_nat (List.getElem?_eq_getElem hk)] at g0 g1
    unfold t__law_alike2
    simp only [ev_Not, ev_B, ev_call, ev_cons, ev_nil, g0, g1, ofO_some, bindR_ok, ev_callF, List.length_cons, List.length_nil]
    simp [hφ _ (List.getElem_mem hk)]
  rw [e]
  simp
/-- data that are told: not deep, not long -/
def shN : Nat → D → Bool
  | _, .non => true
  | _, .bl _ => true
  | _, .int _ => true
  | _, .str s => s.all (· < 1114112)
  | n + 1, .tup l => decide (l.length ≤ 1000) && l.all (shN n)
  | n + 1, .lst l => decide (l.length ≤ 1000) && l.all (shN n)
  | _, _ => false
theorem shN_ok : ∀ (n : Nat) (d : D), shN n d = true → okN n d = true
  | n, .non, _ => by simp
  | n, .bl _, _ => by simp
  | n, .int _, _ => by simp
  | n, .str s, h => by cases n <;> simpa [shN] using h
  | 0, .tup l, h => by cases h
  | 0, .lst l, h => by cases h
  | n + 1, .tup l, h => by
    simp only [shN, Bool.and_eq_true, List.all_eq_true] at h
    rw [okN_tup, List.all_eq_true]
    exact fun x hx => shN_ok n x (h.2 x hx)
  | n + 1, .lst l, h => by
    simp only [shN, Bool.and_eq_true, List.all_eq_true] at h
    rw [okN_lst, List.all_eq_true]
    exact fun x hx => shN_ok n x (h.2 x hx)
  | n, .dct _ _, h => by cases n <;> cases h
  | n, .obj _, h => by cases n <;> cases h
  | n, .cst _, h => by cases n <;> cases h
  | n, .own _ _, h => by cases n <;> cases h
  | n, .fn _ _, h => by cases n <;> cases h
  | n, .erx _ _ _ _, h => by cases n <;> cases h
theorem alike_atom (φ : Fd) (d : D) (m : Sto) (h : shN 0 d = true) : alikeB φ [d, d] m = .ok (.bl true) m := by
  have ho := okN_up 0 d (shN_ok 0 d h) 60 (by decide)
  show ofFl (b__law_alike φ [some (.val d), some (.val d), none] m) = _
  unfold b__law_alike
  cases d with
  | non =>
    have t1 : fIsi [.non, .tup [.cst (.ty "tuple"), .cst (.ty "list")]] m = .ok (.bl false) m := isi2 rfl (by decide +kernel)
    have t2 : fIsi [.non, .cst (.ty "str")] m = .ok (.bl false) m := isi1 rfl (by decide +kernel)
    have h2 : (2 : Nat) ≤ LIM := by decide
    simp [t1, t2, h2]
  | bl b =>
    have t1 : fIsi [.bl b, .tup [.cst (.ty "tuple"), .cst (.ty "list")]] m = .ok (.bl false) m := isi2 rfl (by decide +kernel)
    have t2 : fIsi [.bl b, .cst (.ty "str")] m = .ok (.bl false) m := isi1 rfl (by decide +kernel)
    have t3 : fIsi [.bl b, .cst (.ty "int")] m = .ok (.bl true) m := isi1 rfl (by decide +kernel)
    have t4 : fIsi [.bl b, .cst (.ty "bool")] m = .ok (.bl true) m := isi1 rfl (by decide +kernel)
    have h2 : (2 : Nat) ≤ LIM := by decide
    have n0 : isNonD (.bl b) = some false := rfl
    simp [t1, t2, t3, t4, h2, n0]
  | int b =>
    have t1 : fIsi [.int b, .tup [.cst (.ty "tuple"), .cst (.ty "list")]] m = .ok (.bl false) m := isi2 rfl (by decide +kernel)
    have t2 : fIsi [.int b, .cst (.ty "str")] m = .ok (.bl false) m := isi1 rfl (by decide +kernel)
    have t3 : fIsi [.int b, .cst (.ty "int")] m = .ok (.bl true) m := isi1 rfl (by decide +kernel)
    have t4 : fIsi [.int b, .cst (.ty "bool")] m = .ok (.bl false) m := isi1 rfl (by decide +kernel)
    have h2 : (2 : Nat) ≤ LIM := by decide
    simp [t1, t2, t3, t4, h2]
  | str b =>
    have t1 : fIsi [.str b, .tup [.cst (.ty "tuple"), .cst (.ty "list")]] m = .ok (.bl false) m := isi2 rfl (by decide +kernel)
    have t2 : fIsi [.str b, .cst (.ty "str")] m = .ok (.bl true) m := isi1 rfl (by decide +kernel)
    have h2 : (2 : Nat) ≤ LIM := by decide
    simp only [okN_str] at ho
    simp [t1, t2, h2, -List.all_eq_true, ho]
  | tup l => cases h
  | lst l => cases h
  | _ => cases h
theorem alike_same : ∀ (n : Nat) (d : D) (m : Sto), n ≤ 20 → shN n d = true → recF alikeB (n + 1) [d, d] m = .ok (.bl true) m := by
  intro n
  induction n with
  | zero => exact fun d m _ h => alike_atom _ d m h
  | succ n ih =>
    intro d m hn h
    have base : ∀ d : D, shN 0 d = true → recF alikeB (n + 1 + 1) [d, d] m = .ok (.bl true) m := fun d h => alike_atom _ d m h
    cases d with
    | non => exact base _ rfl
    | bl b => exact base _ rfl
    | int b => exact base _ rfl
    | str b => exact base _ h
    | tup l =>
      have h' := h
      simp only [shN, Bool.and_eq_true, decide_eq_true_eq, List.all_eq_true] at h
      have hl : l.length ≤ LIM := lim12 h.1
      have hr : inR l.length = true := decide_eq_true (by omega)
      have hc := alike_comp (φ := recF alikeB (n + 1)) (l := l) (c0 := some (.val (.tup l))) (c1 := some (.val (.tup l))) (m := m) hl hr (fun x hx => ih x m (by omega) (h.2 x hx)) (fun i => rfl) (fun i => rfl)
      have t1 : fIsi [.tup l, .tup [.cst (.ty "tuple"), .cst (.ty "list")]] m = .ok (.bl true) m := isi2 rfl (by decide +kernel)
      have t2 : fIsi [.tup l, .cst (.ty "list")] m = .ok (.bl false) m := isi1 rfl (by decide +kernel)
      have h2 : (2 : Nat) ≤ LIM := by decide
      have h0 : (0 : Nat) ≤ LIM := by decide
      show ofFl (b__law_alike (recF alikeB (n + 1)) [some (.val (.tup l)), some (.val (.tup l)), none] m) = _
      unfold b__law_alike
      have e : sLc [2] (sRg (aCons (sCall fLen (aCons (sPk 1) (aNil))) (aNil))) g__law_alike1 (t__law_alike2 (recF alikeB (n + 1))) (f__law_alike3 (recF alikeB (n + 1))) [some (.val (.tup l)), some (.val (.tup l)), none] m = .ok (.lst []) m := by
        rw [ev_Lc, ev_Rg (i := l.length) (m' := m) (by simp), if_pos hr]
        simp only [bindR_ok, Int.toNat_natCast, rangeL_length]
        rw [if_pos ⟨hl, by simp⟩]
        simp only [wipeE_cons, wipeE_nil, List.set_cons_succ, List.set_cons_zero]
        rw [hc]
        simp
      simp [-ev_Lc, e, t1, t2, h2, h0]
    | lst l =>
      have h' := h
      simp only [shN, Bool.and_eq_true, decide_eq_true_eq, List.all_eq_true] at h
      have hl : l.length ≤ LIM := lim12 h.1
      have hr : inR l.length = true := decide_eq_true (by omega)
      have hc := alike_comp (φ := recF alikeB (n + 1)) (l := l) (c0 := some (.val (.lst l))) (c1 := some (.val (.lst l))) (m := m) hl hr (fun x hx => ih x m (by omega) (h.2 x hx)) (fun i => rfl) (fun i => rfl)
      have t1 : fIsi [.lst l, .tup [.cst (.ty "tuple"), .cst (.ty "list")]] m = .ok (.bl true) m := isi2 rfl (by decide +kernel)
      have t2 : fIsi [.lst l, .cst (.ty "list")] m = .ok (.bl true) m := isi1 rfl (by decide +kernel)
      have h2 : (2 : Nat) ≤ LIM := by decide
      have h0 : (0 : Nat) ≤ LIM := by decide
      show ofFl (b__law_alike (recF alikeB (n + 1)) [some (.val (.lst l)), some (.val (.lst l)), none] m) = _
      unfold b__law_alike
      have e : sLc [2] (sRg (aCons (sCall fLen (aCons (sPk 1) (aNil))) (aNil))) g__law_alike1 (t__law_alike2 (recF alikeB (n + 1))) (f__law_alike3 (recF alikeB (n + 1))) [some (.val (.lst l)), some (.val (.lst l)), none] m = .ok (.lst []) m := by
        rw [ev_Lc, ev_Rg (i := l.length) (m' := m) (by simp), if_pos hr]
        simp only [bindR_ok, Int.toNat_natCast, rangeL_length]
        rw [if_pos ⟨hl, by simp⟩]
        simp only [wipeE_cons, wipeE_nil, List.set_cons_succ, List.set_cons_zero]
        rw [hc]
        simp
      simp [-ev_Lc, e, t1, t2, h2, h0]
    | _ => cases h
theorem alike_up {d : D} {m : Sto} {n : Nat} (hn : n ≤ 7) (h : shN n d = true) : f__law_alike [d, d] m = .ok (.bl true) m := by
  have up : ∀ (n : Nat) (d : D), shN n d = true → ∀ k, n ≤ k → shN k d = true := by
    intro n
    induction n with
    | zero =>
      intro d h k _
      cases d with
      | non => cases k <;> rfl
      | bl _ => cases k <;> rfl
      | int _ => cases k <;> rfl
      | str _ => cases k <;> exact h
      | tup _ => cases h
      | lst _ => cases h
      | _ => cases h
    | succ n ih =>
      intro d h k hk
      obtain ⟨j, rfl⟩ : ∃ j, k = j + 1 := ⟨k - 1, by omega⟩
      cases d with
      | tup l =>
        simp only [shN, Bool.and_eq_true, List.all_eq_true] at h ⊢
        exact ⟨h.1, fun x hx => ih x (h.2 x hx) j (by omega)⟩
      | lst l =>
        simp only [shN, Bool.and_eq_true, List.all_eq_true] at h ⊢
        exact ⟨h.1, fun x hx => ih x (h.2 x hx) j (by omega)⟩
      | non => rfl
      | bl _ => rfl
      | int _ => rfl
      | str _ => exact h
      | _ => cases h
  exact alike_same 7 d m (by decide) (up n d h 7 hn)
end Dl
namespace Dl
open PySem PySem.Spec PyProof.Rows L2 TL

/-! ### states go round -/
/-- states go round -/
theorem Rep1.round {W : Wld} {j i : Nat} (hr : stW W i = stW W j) (hl : i < j) : ∀ n, stW W (i + n) = stW W (j + n)
  | 0 => hr
  | n + 1 => by
    have ih := Rep1.round hr hl n
    show beatW W.bars W.rules (stW W (i + n)).1 (stW W (i + n)).2 = beatW W.bars W.rules (stW W (j + n)).1 (stW W (j + n)).2
    rw [ih]
theorem Rep1.rounds {W : Wld} {j i : Nat} (hr : stW W i = stW W j) (hl : i < j) (n : Nat) : ∀ k, stW W (i + n) = stW W (i + n + k * (j - i))
  | 0 => by simp
  | k + 1 => by
    rw [Rep1.rounds hr hl n k]
    have e1 : i + n + k * (j - i) = i + (n + k * (j - i)) := by omega
    have e2 : i + n + (k + 1) * (j - i) = j + (n + k * (j - i)) := by
      rw [Nat.add_mul]
      omega
    rw [e1, e2]
    exact Rep1.round hr hl _
theorem Rep1.at {W : Wld} {j i : Nat} (hr : stW W i = stW W j) (hl : i < j) {n : Nat} (hn : i ≤ n) : stW W n = stW W (i + (n - i) % (j - i)) := by
  have h := Rep1.rounds hr hl ((n - i) % (j - i)) ((n - i) / (j - i))
  rw [h]
  congr 1
  have := Nat.mod_add_div' (n - i) (j - i)
  omega
theorem rowsL_at {st : Nat → ST} {n k : Nat} (h : k < n) : atI (rowsL st n) (k : Int) = some (.str (st k).1) := by
  refine atI_nat ?_
  unfold rowsL
  rw [List.getElem?_map, List.getElem?_range h]
  rfl
theorem beat_length {W : Wld} (h : WOk W) : ∀ n, (stW W n).1.length = W.row.length
  | 0 => rfl
  | n + 1 => by
    have ih := beat_length h n
    show (turnKs W.rules (stW W n).1 (cntAll (stW W n).1 W.bars W.rules (stW W n).2)).length = _
    rw [turnKs_length _ _ _ (cntAll_length ..).symm]
    exact ih
end Dl
namespace Dl
open PySem PySem.Spec PyProof.Rows L2 TL

/-! ### beats, rounds, what comes later, who turns -/
theorem beats_ok {W : Wld} (h : WOk W) {n : Nat} (hn : n ≤ 300) (m : Sto) : f_beats [encW W, .int n] m = .ok (.lst (rowsL (stW W) n)) m := by
  have hlen := h.len
  have hrl := h.rl
  have hb := begun_ok (row := W.row) (rules := W.rules) (by omega) (by omega) m
  have h0 : (0 : Nat) ≤ LIM := by decide
  have a0 : ixD (encW W) (.int 0) = some (.str W.row) := rfl
  have a2 : ixD (encW W) (.int 2) = some (.tup (W.rules.map encR)) := rfl
  have hw := need_world_ok h m
  have hin : inR (n : Int) = true := decide_eq_true (by omega)
  show ofFl (b_beats [some (.val (encW W)), some (.val (.int n)), none, none, none, none] m) = _
  unfold b_beats
  rw [seq_nx (r1 := [some (.val (encW W)), some (.val (.int n)), none, none, none, none]) (m1 := m) (by simp [hw])]
  have c1 : decide ((0 : Int) ≤ (n : Int)) = true := decide_eq_true (by omega)
  have c2 : decide ((n : Int) ≤ 300) = true := decide_eq_true (by omega)
  rw [seq_nx (r1 := [some (.val (encW W)), some (.val (.int n)), none, none, none, none]) (m1 := m) (by simp [c1, c2])]
  rw [seq_nx (r1 := [some (.val (encW W)), some (.val (.int n)), some (.val (.str (stW W 0).1)), some (.val (.tup (encC (stW W 0).2))), none, none]) (m1 := m) (by simp [a0, a2, hb, stW])]
  rw [seq_nx (r1 := [some (.val (encW W)), some (.val (.int n)), some (.val (.str (stW W 0).1)), some (.val (.tup (encC (stW W 0).2))), some (.lst (rowsL (stW W) 0)), none]) (m1 := m) (by simp [h0, rowsL])]
  obtain ⟨r2, m2, e, e1, e2⟩ := forL_inv (g := g_beats2) (b := b_beats1) (fun k r' m' => r' = [some (.val (encW W)), some (.val (.int n)), some (.val (.str (stW W k).1)), some (.val (.tup (encC (stW W k).2))), some (.lst (rowsL (stW W) k)), none] ∧ m' = m) (rangeL 0 n) 0 [some (.val (encW W)), some (.val (.int n)), some (.val (.str (stW W 0).1)), some (.val (.tup (encC (stW W 0).2))), some (.lst (rowsL (stW W) 0)), none] m ⟨rfl, rfl⟩ fun k d r' m' hd ⟨e1, e2⟩ => by
    subst e1 e2
    obtain ⟨hk, rfl⟩ := rangeL_get hd
    have hbt := beat_ok (bars := W.bars) (x := .str W.row) (SOk.st h k) h.r (by omega) m'
    have hbt : f_beat_of [encW W, .str (stW W k).1, .tup (encC (stW W k).2)] m' = .ok (.tup [.str (stW W (k + 1)).1, .tup (encC (stW W (k + 1)).2)]) m' := hbt
    have hlt : k < LIM := Nat.lt_of_lt_of_le (show k < 5000 by omega) (by decide)
    refine ⟨_, _, m', rfl, ?_, rfl, rfl⟩
    simp only [Nat.zero_add]
    unfold b_beats1
    simp [hlt, hbt, rowsL_succ]
  rw [Nat.zero_add, rangeL_length] at e1
  subst e1 e2
  rw [seq_nx (r1 := [some (.val (encW W)), some (.val (.int n)), some (.val (.str (stW W n).1)), some (.val (.tup (encC (stW W n).2))), some (.lst (rowsL (stW W) n)), none]) (m1 := m2) (by
    rw [ev_for, ev_Rg (i := (n : Int)) (m' := m2) (by simp), if_pos hin, bindS_ok]
    exact e)]
  simp
end Dl
namespace Dl
open PySem PySem.Spec PyProof.Rows L2 TL
/-! ### what is told is the same as itself; a shelf in the store behind the draws -/
theorem eqDs_own : ∀ {l : List D}, (∀ d ∈ l, eqD d d = true) → eqDs l l = true
  | [], _ => rfl
  | d :: l, h => by
    rw [eqDs_cons, h d (List.mem_cons_self ..), eqDs_own fun x hx => h x (List.mem_cons_of_mem _ hx)]
    rfl
theorem eqD_own : ∀ (n : Nat) (d : D), shN n d = true → eqD d d = true
  | n, .non, _ => rfl
  | n, .bl b, _ => by simp
  | n, .int b, _ => by simp
  | n, .str b, _ => by simp
  | 0, .tup l, h => by cases h
  | 0, .lst l, h => by cases h
  | n + 1, .tup l, h => by
    simp only [shN, Bool.and_eq_true, List.all_eq_true] at h
    rw [eqD_tup]
    exact eqDs_own fun x hx => eqD_own n x (h.2 x hx)
  | n + 1, .lst l, h => by
    simp only [shN, Bool.and_eq_true, List.all_eq_true] at h
    rw [eqD_lst]
    exact eqDs_own fun x hx => eqD_own n x (h.2 x hx)
  | n, .dct _ _, h => by cases n <;> cases h
  | n, .obj _, h => by cases n <;> cases h
  | n, .cst _, h => by cases n <;> cases h
  | n, .own _ _, h => by cases n <;> cases h
  | n, .fn _ _, h => by cases n <;> cases h
  | n, .erx _ _ _ _, h => by cases n <;> cases h
theorem ne_sh {n : Nat} {d : D} (hn : n ≤ 60) (h : shN n d = true) {m : Sto} : opNe d d m = .ok (.bl false) m := by
  have ho := okN_up n d (shN_ok n d h) 60 hn
  rw [ev_ne, if_pos ⟨ho, ho⟩, eqD_own n d h]
  rfl
theorem sh_tup {n : Nat} {l : List D} (h1 : l.length ≤ 1000) (h : ∀ d ∈ l, shN n d = true) : shN (n + 1) (.tup l) = true := by
  simp only [shN, Bool.and_eq_true, List.all_eq_true]
  exact ⟨decide_eq_true h1, h⟩
theorem sh_lst {n : Nat} {l : List D} (h1 : l.length ≤ 1000) (h : ∀ d ∈ l, shN n d = true) : shN (n + 1) (.lst l) = true := by
  simp only [shN, Bool.and_eq_true, List.all_eq_true]
  exact ⟨decide_eq_true h1, h⟩
theorem sh_int {n : Nat} {i : Int} : shN n (.int i) = true := by cases n <;> rfl
theorem sh_bl {n : Nat} {i : Bool} : shN n (.bl i) = true := by cases n <;> rfl
theorem sh_row {n : Nat} {row : List Nat} (h : ∀ k ∈ row, K5 k) : shN n (.str row) = true := by
  have : row.all (fun k => decide (k < 1114112)) = true := by
    rw [List.all_eq_true]
    exact fun k hk => decide_eq_true (k5_lt (h k hk))
  cases n <;> exact this
theorem sh_B {n : Nat} {l : List Nat} : ∀ d ∈ encB l, shN n d = true := by
  intro d hd
  obtain ⟨g, _, rfl⟩ := List.mem_map.mp hd
  exact sh_int
theorem sh_I {n : Nat} {l : List Int} : ∀ d ∈ encI l, shN n d = true := by
  intro d hd
  obtain ⟨g, _, rfl⟩ := List.mem_map.mp hd
  exact sh_int
theorem sh_R {n : Nat} {q : Rul} (h : RulOk q) : shN (n + 1) (encR q) = true := by
  refine sh_tup (by simp) fun d hd => ?_
  simp only [List.mem_cons, List.not_mem_nil, or_false] at hd
  rcases hd with rfl | rfl | rfl | rfl | rfl
  · exact sh_row fun k hk => by rw [List.mem_singleton.mp hk]; exact h.k
  · exact sh_row fun k hk => by rw [List.mem_singleton.mp hk]; exact h.n
  · exact sh_int
  · exact sh_int
  · exact sh_row fun k hk => by rw [List.mem_singleton.mp hk]; exact h.l
theorem sh_Rs {n : Nat} {l : List Rul} (hl : l.length ≤ 1000) (h : ∀ q ∈ l, RulOk q) : shN (n + 2) (.tup (l.map encR)) = true := by
  refine sh_tup (by simpa using hl) fun d hd => ?_
  obtain ⟨q, hq, rfl⟩ := List.mem_map.mp hd
  exact sh_R (h q hq)
theorem sh_W3 {n : Nat} {row bars : List Nat} {rules : List Rul} (h1 : ∀ k ∈ row, K5 k) (h2 : bars.length ≤ 1000) (h3 : rules.length ≤ 1000) (h4 : ∀ q ∈ rules, RulOk q) : shN (n + 3) (.tup [.str row, .tup (encB bars), .tup (rules.map encR)]) = true := by
  refine sh_tup (by simp) fun d hd => ?_
  simp only [List.mem_cons, List.not_mem_nil, or_false] at hd
  rcases hd with rfl | rfl | rfl
  · exact sh_row h1
  · exact sh_tup (by simpa [encB] using h2) sh_B
  · exact sh_Rs h3 h4
theorem WOk.blen {W : Wld} (h : WOk W) : W.bars.length ≤ 11 := by
  have h12 := h.len
  have := h.bars.length_le
  simp at this
  omega
theorem sh_W {n : Nat} {W : Wld} (h : WOk W) : shN (n + 3) (encW W) = true := sh_W3 h.k (by have := h.blen; omega) (by have := h.rl; omega) h.r
theorem zw_all {α β γ : Type} {P : γ → Prop} {f : α → β → γ} : ∀ {l : List α} {k : List β}, (∀ x ∈ l, ∀ y ∈ k, P (f x y)) → ∀ d ∈ List.zipWith f l k, P d
  | [], _, _, d, h => by simp at h
  | _ :: _, [], _, d, h => by simp at h
  | x :: l, y :: k, hp, d, h => by
    rw [List.zipWith_cons_cons] at h
    rcases List.mem_cons.mp h with rfl | h
    · exact hp x (List.mem_cons_self ..) y (List.mem_cons_self ..)
    · exact zw_all (fun a ha b hb => hp a (List.mem_cons_of_mem _ ha) b (List.mem_cons_of_mem _ hb)) d h
theorem sh_look {n : Nat} {S : Shf} (h : ShOk S) : shN (n + 3) (.lst (lookS S)) = true := by
  have h12 := h.so.len
  refine sh_lst (by unfold lookS; rw [List.length_zipWith, List.length_map]; omega) fun d hd => ?_
  unfold lookS at hd
  refine zw_all (P := fun d => shN (n + 2) d = true) (fun x hx y hy => ?_) d hd
  obtain ⟨k, hk, rfl⟩ := List.mem_map.mp hx
  obtain ⟨c, w⟩ := y
  have hy1 := List.of_mem_zip hy
  obtain ⟨cc, hcc, rfl⟩ := List.mem_map.mp hy1.1
  obtain ⟨ww, _, rfl⟩ := List.mem_map.mp hy1.2
  refine sh_tup (by simp) fun d hd => ?_
  simp only [List.mem_cons, List.not_mem_nil, or_false] at hd
  rcases hd with rfl | rfl | rfl
  · exact sh_row fun z hz => by rw [List.mem_singleton.mp hz]; exact h.so.k k hk
  · exact sh_tup (by have := h.so.c cc hcc; have := h.rl; simp [encI]; omega) sh_I
  · exact sh_bl
theorem Good.shelf {ρ m : Sto} {X Y : MObj} (h : Good (ρ ++ [X]) m) : m[ρ.length + 1]? = some X ∧ m.length = ρ.length + 2 ∧ Good (ρ ++ [Y]) (m.set (ρ.length + 1) Y) := by
  obtain ⟨s, cs, p, rfl, h1, h2⟩ := h
  refine ⟨by simp, by simp, s, cs, p, ?_, h1, h2⟩
  simp
theorem Good.snoc {ρ m : Sto} {x : MObj} (h : Good ρ m) : m.length = ρ.length + 1 ∧ Good (ρ ++ [x]) (m ++ [x]) := by
  obtain ⟨s, cs, p, rfl, h1, h2⟩ := h
  exact ⟨by simp, s, cs, p, rfl, h1, h2⟩
theorem ev_pop {i j q : Nat} {f : SE} {r : Env} {m m1 : Sto} {l : List D} {y : D} (hr : r[j]? = some (some (.lst l))) (hf : f r m = .ok (.int (q : Nat)) m1) (hq : l[q]? = some y) (hl : l.length ≤ 1000) : sPop i j f r m = .nx ((r.set j (some (.lst (l.eraseIdx q)))).set i (some (.val y))) m1 := by
  have hk := (List.getElem?_eq_some_iff.mp hq).1
  have hi : ixN l.length (q : Int) = some q := by
    unfold ixN
    rw [if_pos (by omega), if_pos (by omega)]
    simp
  unfold sPop
  rw [hr]
  dsimp only
  rw [hf, bindS_ok]
  dsimp only
  rw [hi]
  dsimp only
  rw [hq]
  dsimp only
  rw [if_pos hl]
theorem rangeB (n : Nat) : rangeL 0 n = encB (List.range n) := by
  unfold rangeL encB
  refine List.map_congr_left fun k _ => ?_
  rw [Int.zero_add]
theorem encB_erase : ∀ (L : List Nat) (q : Nat), (encB L).eraseIdx q = encB (L.eraseIdx q)
  | [], q => by simp [encB]
  | a :: L, 0 => rfl
  | a :: L, q + 1 => congrArg (D.int a :: ·) (encB_erase L q)
theorem encB_len (L : List Nat) : (encB L).length = L.length := by simp [encB]
theorem ne_nilB (L : List Nat) {m : Sto} : opNe (.lst (encB L)) (.lst []) m = .ok (.bl (!L.isEmpty)) m := by
  have h1 : okN 60 (.lst (encB L)) = true := by
    rw [okN_lst, List.all_eq_true]
    intro x hx
    obtain ⟨g, _, rfl⟩ := List.mem_map.mp hx
    rfl
  rw [ev_ne, if_pos ⟨h1, rfl⟩]
  cases L <;> rfl
theorem cut_mid {α : Type} {l : List α} {a b : Nat} (hab : a ≤ b) (hb : b ≤ l.length) : cutL l (some (a : Int)) (some (b : Int)) = (l.drop a).take (b - a) := by
  have h1 : HT.sIx l.length 0 (some (a : Int)) = a := by
    have hneg : ¬ ((a : Int) < 0) := by omega
    simp only [HT.sIx, if_neg hneg]
    simp
    omega
  have h2 : HT.sIx l.length l.length (some (b : Int)) = b := by
    have hneg : ¬ ((b : Int) < 0) := by omega
    simp only [HT.sIx, if_neg hneg]
    simp
    omega
  unfold cutL
  rw [h1, h2]
theorem rows_cut {st : Nat → ST} {n a k : Nat} (h : a + k ≤ n) : ((rowsL st n).drop a).take k = rowsL (fun i => st (a + i)) k := by
  unfold rowsL
  refine List.ext_getElem? fun i => ?_
  rw [List.getElem?_take]
  by_cases hi : i < k
  · rw [if_pos hi, List.getElem?_drop, List.getElem?_map, List.getElem?_map, List.getElem?_range (by omega), List.getElem?_range hi]
    rfl
  · rw [if_neg hi, List.getElem?_map, List.getElem?_eq_none (by simp; omega)]
    rfl
/-! no counts below nothing -/
def NN (cs : List (List Int)) : Prop := ∀ c ∈ cs, ∀ x ∈ c, 0 ≤ x
theorem cntW_nn {row bars : List Nat} {p : Nat} : ∀ (qs : List Rul) (os : List Int), (∀ q ∈ qs, RulOk q) → (∀ o ∈ os, 0 ≤ o) → ∀ x ∈ cntW row bars p qs os, 0 ≤ x
  | [], _, _, _, x, h => by simp [cntW] at h
  | _ :: _, [], _, _, x, h => by simp [cntW] at h
  | q :: qs, o :: os, hq, ho, x, h => by
    rw [cntW] at h
    rcases List.mem_cons.mp h with rfl | h
    · have h1 := (hq q (List.mem_cons_self ..)).b1
      have h2 := ho o (List.mem_cons_self ..)
      split
      · omega
      · omega
    · exact cntW_nn qs os (fun z hz => hq z (List.mem_cons_of_mem _ hz)) (fun z hz => ho z (List.mem_cons_of_mem _ hz)) x h
theorem NN.beat {bars : List Nat} {rules : List Rul} {row : List Nat} {counts : List (List Int)} (h : NN counts) (hq : ∀ q ∈ rules, RulOk q) : NN (beatW bars rules row counts).2 := by
  intro c hc
  obtain ⟨d, hd, rfl⟩ := List.mem_map.mp hc
  unfold turnC
  split
  · obtain ⟨p, hp, rfl⟩ := List.mem_map.mp hd
    refine cntW_nn rules _ hq fun o ho => ?_
    cases e : counts[p]? with
    | none => rw [e] at ho; cases ho
    | some c => rw [e] at ho; exact h c (List.mem_of_getElem? e) o ho
  · intro x hx
    rw [List.eq_of_mem_replicate hx]
    exact Int.le_refl 0
theorem NN.st {W : Wld} (h : WOk W) : ∀ n, NN (stW W n).2
  | 0 => by
    intro c hc x hx
    obtain ⟨_, _, rfl⟩ := List.mem_map.mp hc
    rw [List.eq_of_mem_replicate hx]
    exact Int.le_refl 0
  | n + 1 => (NN.st h n).beat h.r
def goneW (W : Wld) (b : Nat) : Wld := ⟨(stW W b).1, W.bars, W.rules⟩
theorem gone_ok {W : Wld} (h : WOk W) (b : Nat) : WOk (goneW W b) := by
  have hs := SOk.st h b
  have hl := beat_length h b
  have h0 := h.ne
  refine ⟨fun e => ?_, hs.len, hs.k, ?_, h.rl, h.r⟩
  · have e : (stW W b).1 = [] := e
    rw [e] at hl
    exact h0 (List.length_eq_zero_iff.mp hl.symm)
  · show W.bars.Sublist (List.range ((stW W b).1.length - 1))
    rw [hl]
    exact h.bars
theorem gone_st {W : Wld} (h : WOk W) {b : Nat} (hz : ∀ c ∈ (stW W b).2, ∀ x ∈ c, x ≤ 0) : ∀ n, stW (goneW W b) n = stW W (b + n)
  | 0 => by
    have hs := SOk.st h b
    show ((stW W b).1, zer W.rules.length (stW W b).1) = stW W b
    have e : zer W.rules.length (stW W b).1 = (stW W b).2 := by
      unfold zer
      refine List.ext_getElem (by rw [List.length_map, hs.cl]) fun i h1 h2 => ?_
      rw [List.getElem_map]
      have hm := List.getElem_mem h2
      symm
      rw [List.eq_replicate_iff]
      exact ⟨hs.c _ hm, fun x hx => Int.le_antisymm (hz _ hm x hx) (NN.st h b _ hm x hx)⟩
    rw [e]
  | n + 1 => by
    have ih := gone_st h hz n
    show beatW W.bars W.rules (stW (goneW W b) n).1 (stW (goneW W b) n).2 = beatW W.bars W.rules (stW W (b + n)).1 (stW W (b + n)).2
    rw [ih]
end Dl
namespace Dl
open PySem PySem.Spec PyProof.Rows L2 TL
/-! ### jars put in, as the law draws their turn -/
structure PutL (W : Wld) (L T : List Nat) : Prop where
  nl : L.Nodup
  nt : T.Nodup
  dj : ∀ q ∈ L, q ∉ T
  lt : ∀ q ∈ L, q < W.row.length
  lu : ∀ q ∈ T, q < W.row.length
  al : ∀ q, q < W.row.length → q ∈ L ∨ q ∈ T
  ln : L.length + T.length = W.row.length
theorem PutL.new (W : Wld) : PutL W (List.range W.row.length) [] := ⟨List.nodup_range, List.nodup_nil, fun _ _ => List.not_mem_nil, fun q h => List.mem_range.mp h, fun _ h => (List.not_mem_nil h).elim, fun q h => .inl (List.mem_range.mpr h), by simp⟩
theorem PutL.next {W : Wld} {L T : List Nat} (h : PutL W L T) {q p : Nat} (hq : L[q]? = some p) : PutL W (L.eraseIdx q) (T ++ [p]) := by
  have hm := List.mem_of_getElem? hq
  have hlt := (List.getElem?_eq_some_iff.mp hq).1
  have hp : p ∉ L.eraseIdx q := fun z => by
    obtain ⟨j, hj, e⟩ := List.mem_eraseIdx_iff_getElem?.mp z
    exact hj ((List.getElem?_inj (List.getElem?_eq_some_iff.mp e).1 h.nl).mp (e.trans hq.symm))
  refine ⟨h.nl.sublist (List.eraseIdx_sublist ..), ?_, fun x hx => ?_, fun x hx => h.lt x (List.mem_of_mem_eraseIdx hx), fun x hx => ?_, fun x hx => ?_, ?_⟩
  · rw [List.nodup_append]
    refine ⟨h.nt, by simp, fun a ha b hb => ?_⟩
    rw [List.mem_singleton.mp hb]
    exact fun e => h.dj p hm (e ▸ ha)
  · simp only [List.mem_append, List.mem_singleton, not_or]
    exact ⟨h.dj x (List.mem_of_mem_eraseIdx hx), fun e => hp (e ▸ hx)⟩
  · rcases List.mem_append.mp hx with hx | hx
    · exact h.lu x hx
    · rw [List.mem_singleton.mp hx]; exact h.lt p hm
  · rcases h.al x hx with z | z
    · obtain ⟨j, hj⟩ := List.mem_iff_getElem?.mp z
      by_cases e : j = q
      · subst e
        rw [hq] at hj
        cases hj
        exact .inr (by simp)
      · exact .inl (List.mem_eraseIdx_iff_getElem?.mpr ⟨j, e, hj⟩)
    · exact .inr (List.mem_append.mpr (.inl z))
  · have := h.ln
    rw [List.length_eraseIdx_of_lt hlt]
    simp
    omega
theorem there_comp {T : List Nat} {p : Nat} {m : Sto} {c0 c1 c2 c3 c4 c5 c6 c7 c8 c9 c10 c11 c12 c13 c14 c15 c16 c17 c18 c19 c20 c21 c22 : Option Cell} :
    lcL g_law1 t_law2 f_law3 [c0, c1, c2, c3, c4, c5, c6, c7, c8, c9, some (.val (.int (p : Nat))), c11, none, c13, c14, c15, c16, c17, c18, c19, c20, c21, c22] (encB T) m = .ok (encB (T.filter (· < p))) m := by
  have hl := lcL_filter (g := g_law1) (t := t_law2) (f := f_law3) (r0 := [c0, c1, c2, c3, c4, c5, c6, c7, c8, c9, some (.val (.int (p : Nat))), c11, none, c13, c14, c15, c16, c17, c18, c19, c20, c21, c22]) (m := m) (fun d => match d with | .int k => decide (k < (p : Nat)) | _ => false) id (encB T) fun d hd => by
    obtain ⟨g, _, rfl⟩ := List.mem_map.mp hd
    refine ⟨_, rfl, ?_, fun _ => rfl⟩
    simp [t_law2]
  rw [hl, List.map_id]
  congr 1
  unfold encB
  rw [List.filter_map]
  congr 1
  refine List.filter_congr fun x _ => ?_
  show decide ((x : Int) < (p : Int)) = decide (x < p)
  simp
theorem put_turn {W : Wld} (hW : WOk W) {L T : List Nat} {S : Shf} {ds : List Deed} (hL : PutL W L T) (hi : PutI W T S ds) (hne : L ≠ []) {c0 c2 c3 : Option Cell} {m : Sto} (hm : Good (ρ ++ [shO S]) m) :
    ∃ L' T' S' ds' m', L'.length + 1 = L.length ∧ PutL W L' T' ∧ PutI W T' S' ds' ∧ Good (ρ ++ [shO S']) m' ∧ b_law4 [c0, some (.val (.obj 0)), c2, c3, some (.val (.str W.row)), some (.val (.tup (encB W.bars))), some (.val (.tup (W.rules.map encR))), some (.val (.obj (ρ.length + 1))), some (.lst (encB T)), some (.lst (encB L)), none, none, none, none, none, none, none, none, none, none, none, none, none] m = .nx [c0, some (.val (.obj 0)), c2, c3, some (.val (.str W.row)), some (.val (.tup (encB W.bars))), some (.val (.tup (W.rules.map encR))), some (.val (.obj (ρ.length + 1))), some (.lst (encB T')), some (.lst (encB L')), none, none, none, none, none, none, none, none, none, none, none, none, none] m' := by
  have h12 := hW.len
  have hln := hL.ln
  have hp0 : 0 < L.length := List.length_pos_iff.mpr hne
  obtain ⟨v, m1, e1, a1, b1, g1⟩ := draw hm (k := L.length) (by omega) (by omega)
  obtain ⟨q, rfl⟩ : ∃ q : Nat, v = q := ⟨v.toNat, by omega⟩
  have hq : q < L.length := by omega
  obtain ⟨p, hpq⟩ : ∃ p, L[q]? = some p := ⟨_, List.getElem?_eq_getElem hq⟩
  have hpm := List.mem_of_getElem? hpq
  have hpl := hL.lt p hpm
  obtain ⟨hc, hi'⟩ := hi.put hW hpl (hL.dj p hpm) hL.nt hL.lu (by omega)
  obtain ⟨hs, hlen, hg⟩ := g1.shelf (Y := shO (putS S (T.filter (· < p)).length (W.row.getD p 0)))
  have hput := put_okS hi.ok hs hc.1 hc.2.1 hc.2.2
  refine ⟨L.eraseIdx q, T ++ [p], _, _, _, ?_, hL.next hpq, hi', hg, ?_⟩
  · rw [List.length_eraseIdx_of_lt hq]; omega
  have hz : W.row.length ≤ LIM := lim12 (by omega)
  have hzT : T.length ≤ LIM := lim12 (by omega)
  have hzT' : T.length < LIM := Nat.lt_of_lt_of_le (show T.length < 1000 by omega) (by decide)
  unfold b_law4
  rw [seq_nx (r1 := [c0, some (.val (.obj 0)), c2, c3, some (.val (.str W.row)), some (.val (.tup (encB W.bars))), some (.val (.tup (W.rules.map encR))), some (.val (.obj (ρ.length + 1))), some (.lst (encB T)), some (.lst (encB (L.eraseIdx q))), some (.val (.int (p : Nat))), none, none, none, none, none, none, none, none, none, none, none, none]) (m1 := m1) (by
    rw [ev_pop (l := encB L) (m1 := m1) (q := q) (y := .int p) rfl (by simp [f__law_next, encB_len, e1]) (encB_of hpq) (by rw [encB_len]; omega), encB_erase]
    rfl)]
  rw [seq_nx (r1 := [c0, some (.val (.obj 0)), c2, c3, some (.val (.str W.row)), some (.val (.tup (encB W.bars))), some (.val (.tup (W.rules.map encR))), some (.val (.obj (ρ.length + 1))), some (.lst (encB T)), some (.lst (encB (L.eraseIdx q))), some (.val (.int (p : Nat))), some (.val (.int ((T.filter (· < p)).length : Nat))), none, none, none, none, none, none, none, none, none, none, none]) (m1 := m1) (by
    have hcm := @there_comp T p m1 (c0) (some (.val (.obj 0))) (c2) (c3) (some (.val (.str W.row))) (some (.val (.tup (encB W.bars)))) (some (.val (.tup (W.rules.map encR)))) (some (.val (.obj (ρ.length + 1)))) (some (.lst (encB T))) (some (.lst (encB (L.eraseIdx q)))) (some (.val (.int (p : Nat)))) (none) (none) (none) (none) (none) (none) (none) (none) (none) (none) (none) (none)
    have hb : (encB T).length ≤ LIM := by rw [encB_len]; exact hzT
    simp only [ev_set, ev_cV, ev_call, ev_cons, ev_nil, ev_Lc]
    have hI : sOwnIt 8 [c0, some (.val (.obj 0)), c2, c3, some (.val (.str W.row)), some (.val (.tup (encB W.bars))), some (.val (.tup (W.rules.map encR))), some (.val (.obj (ρ.length + 1))), some (.lst (encB T)), some (.lst (encB (L.eraseIdx q))), some (.val (.int (p : Nat))), none, none, none, none, none, none, none, none, none, none, none, none] m1 = .ok (encB T) m1 := rfl
    rw [hI]
    simp only [bindR_ok]
    rw [if_pos ⟨hb, by simp⟩]
    simp only [wipeE_cons, wipeE_nil, List.set_cons_succ, List.set_cons_zero]
    rw [hcm]
    simp [encB_len])]
  rw [seq_nx (r1 := [c0, some (.val (.obj 0)), c2, c3, some (.val (.str W.row)), some (.val (.tup (encB W.bars))), some (.val (.tup (W.rules.map encR))), some (.val (.obj (ρ.length + 1))), some (.lst (encB T)), some (.lst (encB (L.eraseIdx q))), some (.val (.int (p : Nat))), some (.val (.int ((T.filter (· < p)).length : Nat))), none, none, none, none, none, none, none, none, none, none, none]) (m1 := m1.set (ρ.length + 1) (shO (putS S (T.filter (· < p)).length (W.row.getD p 0)))) (by
    rw [ev_expr, mt_call (r := [c0, some (.val (.obj 0)), c2, c3, some (.val (.str W.row)), some (.val (.tup (encB W.bars))), some (.val (.tup (W.rules.map encR))), some (.val (.obj (ρ.length + 1))), some (.lst (encB T)), some (.lst (encB (L.eraseIdx q))), some (.val (.int (p : Nat))), some (.val (.int ((T.filter (· < p)).length : Nat))), none, none, none, none, none, none, none, none, none, none, none]) (i := 7) rfl hs rfl]
    have e4 : W.row[p]? = some (W.row.getD p 0) := by simp [List.getD, hpl]
    have e5 : ixD (.str W.row) (.int (p : Nat)) = some (.str [W.row.getD p 0]) := ix_str e4 hz
    simp [-List.getD_eq_getElem?_getD, e5, hput])]
  have e6 : encB T ++ [D.int p] = encB (T ++ [p]) := by simp [encB]
  rw [seq_nx (r1 := [c0, some (.val (.obj 0)), c2, c3, some (.val (.str W.row)), some (.val (.tup (encB W.bars))), some (.val (.tup (W.rules.map encR))), some (.val (.obj (ρ.length + 1))), some (.lst (encB (T ++ [p]))), some (.lst (encB (L.eraseIdx q))), some (.val (.int (p : Nat))), some (.val (.int ((T.filter (· < p)).length : Nat))), none, none, none, none, none, none, none, none, none, none, none]) (m1 := m1.set (ρ.length + 1) (shO (putS S (T.filter (· < p)).length (W.row.getD p 0)))) (by
    simp [encB_len, hzT', e6])]
  rfl
theorem put_loop {W : Wld} (hW : WOk W) {c0 c2 c3 : Option Cell} : ∀ (n N : Nat) (L T : List Nat) (S : Shf) (ds : List Deed) (m : Sto), L.length = n → n < N → PutL W L T → PutI W T S ds → Good (ρ ++ [shO S]) m →
    ∃ T' S' ds' m', PutL W [] T' ∧ PutI W T' S' ds' ∧ Good (ρ ++ [shO S']) m' ∧ whileN t_law5 b_law4 N [c0, some (.val (.obj 0)), c2, c3, some (.val (.str W.row)), some (.val (.tup (encB W.bars))), some (.val (.tup (W.rules.map encR))), some (.val (.obj (ρ.length + 1))), some (.lst (encB T)), some (.lst (encB L)), none, none, none, none, none, none, none, none, none, none, none, none, none] m = .nx [c0, some (.val (.obj 0)), c2, c3, some (.val (.str W.row)), some (.val (.tup (encB W.bars))), some (.val (.tup (W.rules.map encR))), some (.val (.obj (ρ.length + 1))), some (.lst (encB T')), some (.lst (encB [])), none, none, none, none, none, none, none, none, none, none, none, none, none] m'
  | 0, N, L, T, S, ds, m, hn, hN, hL, hi, hm => by
    have e : L = [] := List.length_eq_zero_iff.mp hn
    subst e
    obtain ⟨k, rfl⟩ : ∃ k, N = k + 1 := ⟨N - 1, by omega⟩
    refine ⟨T, S, ds, m, hL, hi, hm, ?_⟩
    refine while_end ?_
    have hne := ne_nilB [] (m := m)
    have h0 : (0 : Nat) ≤ LIM := by decide
    unfold t_law5
    simp [-ev_ne, h0, hne]
  | n + 1, N, L, T, S, ds, m, hn, hN, hL, hi, hm => by
    obtain ⟨k, rfl⟩ : ∃ k, N = k + 1 := ⟨N - 1, by omega⟩
    have hne' : L ≠ [] := fun e => by rw [e] at hn; cases hn
    obtain ⟨L', T', S', ds', m', el, hL', hi', hm', e⟩ := put_turn hW hL hi hne' (c0 := c0) (c2 := c2) (c3 := c3) hm
    obtain ⟨T2, S2, ds2, m2, hL2, hi2, hm2, e2⟩ := put_loop hW (c0 := c0) (c2 := c2) (c3 := c3) n k L' T' S' ds' m' (by omega) (by omega) hL' hi' hm'
    refine ⟨T2, S2, ds2, m2, hL2, hi2, hm2, ?_⟩
    rw [while_go (m1 := m) ?_ e, e2]
    have hnb := ne_nilB L (m := m)
    have h0 : (0 : Nat) ≤ LIM := by decide
    have hem : L.isEmpty = false := by simpa using hne'
    rw [hem] at hnb
    unfold t_law5
    simp [-ev_ne, h0, hnb]
end Dl
namespace Dl
open PySem PySem.Spec PyProof.Rows L2 TL
/-! ### bars put -/
theorem bar_loop {W : Wld} (hW : WOk W) {c0 c2 c3 c8 c9 : Option Cell} : ∀ (Q P : List Nat) (S : Shf) (ds : List Deed) (m : Sto), P ++ Q = W.bars → BarI W P S ds → Good (ρ ++ [shO S]) m →
    ∃ S' ds' m', BarI W W.bars S' ds' ∧ Good (ρ ++ [shO S']) m' ∧ forL g_law7 b_law6 (encB Q) [c0, some (.val (.obj 0)), c2, c3, some (.val (.str W.row)), some (.val (.tup (encB W.bars))), some (.val (.tup (W.rules.map encR))), some (.val (.obj (ρ.length + 1))), c8, c9, none, none, none, none, none, none, none, none, none, none, none, none, none] m = .nx [c0, some (.val (.obj 0)), c2, c3, some (.val (.str W.row)), some (.val (.tup (encB W.bars))), some (.val (.tup (W.rules.map encR))), some (.val (.obj (ρ.length + 1))), c8, c9, none, none, none, none, none, none, none, none, none, none, none, none, none] m'
  | [], P, S, ds, m, e, hi, hm => by
    rw [List.append_nil] at e
    subst e
    exact ⟨S, ds, m, hi, hm, rfl⟩
  | g :: Q, P, S, ds, m, e, hi, hm => by
    have h12 := hW.len
    have hnd : (P ++ g :: Q).Nodup := by rw [e]; exact List.nodup_range.sublist hW.bars
    have hP : g ∉ P := fun z => (List.nodup_append.mp hnd).2.2 g z g (List.mem_cons_self ..) rfl
    have hg : g < W.row.length - 1 := bars_lt hW (by rw [← e]; simp)
    have hbl := hW.blen
    have hpl : P.length ≤ 11 := by rw [← e, List.length_append] at hbl; omega
    obtain ⟨hc, hi'⟩ := hi.bar hW (g := g) (by omega) hP (by omega)
    obtain ⟨hs, hlen, hg'⟩ := hm.shelf (Y := shO (barS S g))
    have hbar := bar_okS hi.ok hs hc.1 hc.2
    obtain ⟨S2, ds2, m2, hi2, hm2, e2⟩ := bar_loop hW (c0 := c0) (c2 := c2) (c3 := c3) (c8 := c8) (c9 := c9) Q (P ++ [g]) _ _ _ (by simp [← e]) hi' hg'
    refine ⟨S2, ds2, m2, hi2, hm2, ?_⟩
    show forL g_law7 b_law6 (.int g :: encB Q) _ _ = _
    rw [forL_step (r' := [c0, some (.val (.obj 0)), c2, c3, some (.val (.str W.row)), some (.val (.tup (encB W.bars))), some (.val (.tup (W.rules.map encR))), some (.val (.obj (ρ.length + 1))), c8, c9, none, none, none, some (.val (.int g)), none, none, none, none, none, none, none, none, none]) (r2 := [c0, some (.val (.obj 0)), c2, c3, some (.val (.str W.row)), some (.val (.tup (encB W.bars))), some (.val (.tup (W.rules.map encR))), some (.val (.obj (ρ.length + 1))), c8, c9, none, none, none, none, none, none, none, none, none, none, none, none, none]) (m2 := m.set (ρ.length + 1) (shO (barS S g))) rfl (by
      unfold b_law6
      rw [seq_nx (r1 := [c0, some (.val (.obj 0)), c2, c3, some (.val (.str W.row)), some (.val (.tup (encB W.bars))), some (.val (.tup (W.rules.map encR))), some (.val (.obj (ρ.length + 1))), c8, c9, none, none, none, some (.val (.int g)), none, none, none, none, none, none, none, none, none]) (m1 := m.set (ρ.length + 1) (shO (barS S g))) (by
        rw [ev_expr, mt_call (i := 7) rfl hs rfl]
        simp [hbar])]
      rfl), e2]
/-! ### quiet -/
theorem ne_nilI (c : List Int) {m : Sto} : opNe (.lst (encI c)) (.lst []) m = .ok (.bl (!c.isEmpty)) m := by
  have h1 : okN 60 (.lst (encI c)) = true := by
    rw [okN_lst, List.all_eq_true]
    intro x hx
    obtain ⟨g, _, rfl⟩ := List.mem_map.mp hx
    rfl
  rw [ev_ne, if_pos ⟨h1, rfl⟩]
  cases c <;> rfl
def someD : D → D
  | .tup [_, x, _] => x
  | _ => .non
def livD : D → Bool
  | .tup [_, .tup c, _] => c.any fun d => match d with | .int x => decide (0 < x) | _ => false
  | _ => false
theorem liv_enc {x y : D} {c : List Int} : livD (.tup [x, .tup (encI c), y]) = !(c.filter fun i => decide (0 < i)).isEmpty := by
  show (encI c).any _ = _
  unfold encI
  rw [List.any_map]
  induction c with
  | nil => rfl
  | cons a c ih =>
    rw [List.any_cons, ih, List.filter_cons]
    by_cases h : 0 < a
    · simp [h]
    · simp [h]
theorem look_at {S : Shf} {i k : Nat} {c : List Int} {w : Bool} (h1 : S.row[i]? = some k) (h2 : S.counts[i]? = some c) (h3 : S.walls[i]? = some w) : (lookS S)[i]? = some (.tup [.str [k], .tup (encI c), .bl w]) := by
  unfold lookS
  rw [List.getElem?_zipWith, List.getElem?_map, h1]
  have e : ((encC S.counts).zip (S.walls.map D.bl))[i]? = some (.tup (encI c), .bl w) := by
    rw [List.getElem?_zip_eq_some]
    exact ⟨by unfold encC; rw [List.getElem?_map, h2]; rfl, by rw [List.getElem?_map, h3]; rfl⟩
  rw [e]
  rfl
theorem look_of {S : Shf} (h : ShOk S) {d : D} (hd : d ∈ lookS S) : ∃ k c w, c ∈ S.counts ∧ d = .tup [.str [k], .tup (encI c), .bl w] := by
  unfold lookS at hd
  refine zw_all (P := fun d => ∃ k c w, c ∈ S.counts ∧ d = .tup [.str [k], .tup (encI c), .bl w]) (fun x hx y hy => ?_) d hd
  obtain ⟨k, hk, rfl⟩ := List.mem_map.mp hx
  obtain ⟨c, w⟩ := y
  have hy1 := List.of_mem_zip hy
  obtain ⟨cc, hcc, rfl⟩ := List.mem_map.mp hy1.1
  obtain ⟨ww, _, rfl⟩ := List.mem_map.mp hy1.2
  exact ⟨k, cc, ww, hcc, rfl⟩
theorem live_one {c : List Int} (hc : c.length ≤ 1000) {m : Sto} {c0 c1 c2 c3 c4 c5 c6 c7 c8 c9 c10 c11 c12 c13 c14 c15 c16 c17 c18 c19 c21 : Option Cell} : t_law15 [c0, c1, c2, c3, c4, c5, c6, c7, c8, c9, c10, c11, c12, c13, c14, c15, c16, c17, c18, c19, some (.val (.tup (encI c))), c21, none] m = .ok (!(c.filter fun i => decide (0 < i)).isEmpty) m := by
  have hl := lcL_filter (g := g_law11) (t := t_law12) (f := f_law13) (r0 := [c0, c1, c2, c3, c4, c5, c6, c7, c8, c9, c10, c11, c12, c13, c14, c15, c16, c17, c18, c19, some (.val (.tup (encI c))), c21, none]) (m := m) (fun d => match d with | .int x => decide (0 < x) | _ => false) id (encI c) fun d hd => by
    obtain ⟨g, _, rfl⟩ := List.mem_map.mp hd
    refine ⟨_, rfl, ?_, fun _ => rfl⟩
    simp [t_law12]
  rw [List.map_id] at hl
  have e : (encI c).filter (fun d => match d with | .int x => decide (0 < x) | _ => false) = encI (c.filter fun i => decide (0 < i)) := by
    unfold encI
    rw [List.filter_map]
    rfl
  rw [e] at hl
  have hz : (encI c).length ≤ LIM := lim12 (by simpa [encI] using hc)
  have h0 : (0 : Nat) ≤ LIM := by decide
  have hne := ne_nilI (c.filter fun i => decide (0 < i)) (m := m)
  unfold t_law15
  simp only [ev_B, ev_bin, ev_Lc, ev_It, ev_var, List.getElem?_cons_succ, List.getElem?_cons_zero, bindR_ok, itD_t, ofO_some]
  rw [if_pos ⟨hz, by simp⟩]
  simp only [wipeE_cons, wipeE_nil, List.set_cons_succ, List.set_cons_zero]
  rw [hl]
  simp [-ev_ne, h0, hne]
theorem quiet_comp {S : Shf} (h : ShOk S) {m : Sto} {c0 c1 c2 c3 c4 c5 c6 c7 c8 c9 c10 c11 c12 c13 c14 c15 c16 c17 c18 : Option Cell} :
    ∃ Q : List D, lcL g_law14 t_law15 f_law16 [c0, c1, c2, c3, c4, c5, c6, c7, c8, c9, c10, c11, c12, c13, c14, c15, c16, c17, c18, none, none, none, none] (lookS S) m = .ok Q m ∧ okN 60 (.lst Q) = true ∧ (Q = [] → ∀ c ∈ S.counts, ∀ x ∈ c, x ≤ 0) := by
  have hrl := h.rl
  have hl := lcL_filter (g := g_law14) (t := t_law15) (f := f_law16) (r0 := [c0, c1, c2, c3, c4, c5, c6, c7, c8, c9, c10, c11, c12, c13, c14, c15, c16, c17, c18, none, none, none, none]) (m := m) livD someD (lookS S) fun d hd => by
    obtain ⟨k, c, w, hc, rfl⟩ := look_of h hd
    have hcl := h.so.c c hc
    refine ⟨_, rfl, ?_, fun _ => rfl⟩
    rw [liv_enc]
    exact live_one (by omega)
  refine ⟨_, hl, ?_, fun hQ c hc x hx => ?_⟩
  · rw [okN_lst, List.all_eq_true]
    intro y hy
    obtain ⟨d, hd, rfl⟩ := List.mem_map.mp hy
    obtain ⟨k, c, w, hc, rfl⟩ := look_of h (List.mem_filter.mp hd).1
    show okN 59 (.tup (encI c)) = true
    rw [okN_tup, List.all_eq_true]
    intro x hx
    obtain ⟨g, _, rfl⟩ := List.mem_map.mp hx
    rfl
  · obtain ⟨i, hi⟩ := List.mem_iff_getElem?.mp hc
    have hi2 := (List.getElem?_eq_some_iff.mp hi).1
    have hcl := h.so.cl
    have hwl := h.wl
    have hd := List.mem_of_getElem? (look_at (S := S) (List.getElem?_eq_getElem (by omega)) hi (List.getElem?_eq_getElem (by omega)))
    have hn := List.filter_eq_nil_iff.mp (List.map_eq_nil_iff.mp hQ) _ hd
    rw [liv_enc] at hn
    have hn : (c.filter fun i => decide (0 < i)) = [] := by simpa using hn
    have := List.filter_eq_nil_iff.mp hn x hx
    simp only [decide_eq_true_eq] at this
    omega
/-! ### a beat -/
theorem who_comp {W : Wld} (hW : WOk W) {b : Nat} (hb : b < 29) {m : Sto} {c0 c2 c3 c7 c8 c9 c16 : Option Cell} : lcL g_law8 t_law9 f_law10 [c0, some (.val (.obj 0)), c2, c3, some (.val (.str W.row)), some (.val (.tup (encB W.bars))), some (.val (.tup (W.rules.map encR))), c7, c8, c9, none, none, none, none, some (.val (.lst (rowsL (stW W) 30))), some (.val (.int (b : Nat))), c16, none, none, none, none, none, none] (rangeL 0 W.row.length) m = .ok (encB ((List.range W.row.length).filter fun p => decide ((stW W (b + 1)).1[p]? ≠ (stW W b).1[p]?))) m := by
  have h12 := hW.len
  have l0 := beat_length hW b
  have l1 := beat_length hW (b + 1)
  have r0 := rowsL_at (st := stW W) (n := 30) (k := b) (by omega)
  have r1 := rowsL_at (st := stW W) (n := 30) (k := b + 1) (by omega)
  have hl := lcL_filter (g := g_law8) (t := t_law9) (f := f_law10) (r0 := [c0, some (.val (.obj 0)), c2, c3, some (.val (.str W.row)), some (.val (.tup (encB W.bars))), some (.val (.tup (W.rules.map encR))), c7, c8, c9, none, none, none, none, some (.val (.lst (rowsL (stW W) 30))), some (.val (.int (b : Nat))), c16, none, none, none, none, none, none]) (m := m) (fun d => match d with | .int k => decide ((stW W (b + 1)).1[k.toNat]? ≠ (stW W b).1[k.toNat]?) | _ => false) id (rangeL 0 W.row.length) fun d hd => by
    obtain ⟨i, hi, e⟩ := List.mem_iff_getElem.mp hd
    obtain ⟨hi2, h2⟩ := rangeL_get (List.getElem?_eq_some_iff.mpr ⟨hi, e⟩)
    subst h2
    refine ⟨_, rfl, ?_, fun _ => rfl⟩
    have i0 : i < (stW W b).1.length := by omega
    have i1 : i < (stW W (b + 1)).1.length := by omega
    have e0 : ixD (.str (stW W b).1) (.int (0 + (i : Nat))) = some (.str [(stW W b).1[i]]) := by
      rw [Int.zero_add]
      exact ix_str (List.getElem?_eq_getElem i0) (lim12 (by omega))
    have e1 : ixD (.str (stW W (b + 1)).1) (.int (0 + (i : Nat))) = some (.str [(stW W (b + 1)).1[i]]) := by
      rw [Int.zero_add]
      exact ix_str (List.getElem?_eq_getElem i1) (lim12 (by omega))
    have k0 := k5_lt ((SOk.st hW b).k _ (List.getElem_mem i0))
    have k1 := k5_lt ((SOk.st hW (b + 1)).k _ (List.getElem_mem i1))
    have e3 : (0 + (i : Int)).toNat = i := by omega
    have r1' : atI (rowsL (stW W) 30) ((b : Int) + 1) = some (.str (stW W (b + 1)).1) := r1
    have e0' : ixD (.str (stW W b).1) (.int (i : Nat)) = some (.str [(stW W b).1[i]]) := ix_str (List.getElem?_eq_getElem i0) (lim12 (by omega))
    have e1' : ixD (.str (stW W (b + 1)).1) (.int (i : Nat)) = some (.str [(stW W (b + 1)).1[i]]) := ix_str (List.getElem?_eq_getElem i1) (lim12 (by omega))
    simp [t_law9, r0, r1', e0, e1, e0', e1', k0, k1, e3, i0, i1]
    exact Bool.eq_iff_iff.mpr (by simp; exact ⟨fun h => h.symm, fun h => h.symm⟩)
  have e : (rangeL 0 W.row.length).filter (fun d => match d with | .int k => decide ((stW W (b + 1)).1[k.toNat]? ≠ (stW W b).1[k.toNat]?) | _ => false) = encB ((List.range W.row.length).filter fun p => decide ((stW W (b + 1)).1[p]? ≠ (stW W b).1[p]?)) := by
    unfold rangeL encB
    rw [List.filter_map]
    have : (fun (k : Nat) => D.int (0 + (k : Int))) = fun (k : Nat) => D.int k := by
      funext k
      simp
    rw [this]
    congr 1
  rw [List.map_id, e] at hl
  exact hl
theorem rowsL_sh {W : Wld} (hW : WOk W) {a k : Nat} (hk : k ≤ 1000) : shN 1 (.lst (rowsL (fun i => stW W (a + i)) k)) = true := by
  refine sh_lst (by simpa using hk) fun d hd => ?_
  obtain ⟨i, _, rfl⟩ := List.mem_map.mp hd
  exact sh_row (SOk.st hW _).k
theorem tick_turn {W : Wld} (hW : WOk W) {b : Nat} (hb : b < 29) {S : Shf} {ds : List Deed} (hi : TickI W b S ds) {c0 c2 c3 c8 c9 : Option Cell} {m : Sto} (hm : Good (ρ ++ [shO S]) m) :
    Good (ρ ++ [shO (tickS S)]) (m.set (ρ.length + 1) (shO (tickS S))) ∧ b_law17 [c0, some (.val (.obj 0)), c2, c3, some (.val (.str W.row)), some (.val (.tup (encB W.bars))), some (.val (.tup (W.rules.map encR))), some (.val (.obj (ρ.length + 1))), c8, c9, none, none, none, none, some (.val (.lst (rowsL (stW W) 30))), some (.val (.int (b : Nat))), none, none, none, none, none, none, none] m = .nx [c0, some (.val (.obj 0)), c2, c3, some (.val (.str W.row)), some (.val (.tup (encB W.bars))), some (.val (.tup (W.rules.map encR))), some (.val (.obj (ρ.length + 1))), c8, c9, none, none, none, none, some (.val (.lst (rowsL (stW W) 30))), none, none, none, none, none, none, none, none] (m.set (ρ.length + 1) (shO (tickS S))) := by
  have h12 := hW.len
  have h3 : (3 : Nat) ≤ LIM := by decide
  have h0 : (0 : Nat) ≤ LIM := by decide
  have hbl := hW.blen
  obtain ⟨hs, hlen, hg⟩ := hm.shelf (Y := shO (tickS S))
  have hi' := hi.tick hW (by omega)
  have htk := tick_okS hi.ok hs
  have hs' := get_set (Y := shO (tickS S)) hs
  have l0 := beat_length hW b
  have l1 := beat_length hW (b + 1)
  have hwd := world_okS hi'.ok hs'
  rw [hi'.row, hi'.bs, hi'.ru] at hwd
  have r1 : atI (rowsL (stW W) 30) ((b : Int) + 1) = some (.str (stW W (b + 1)).1) := rowsL_at (st := stW W) (n := 30) (k := b + 1) (by omega)
  have htk : f_Shelf_tick [.obj (ρ.length + 1)] m = .ok (.lst (encB ((List.range W.row.length).filter fun p => decide ((stW W (b + 1)).1[p]? ≠ (stW W b).1[p]?)))) (m.set (ρ.length + 1) (shO (tickS S))) := by
    rw [htk, hi'.row, hi.row, l0]
  refine ⟨hg, ?_⟩
  generalize eTL : (List.range W.row.length).filter (fun p => decide ((stW W (b + 1)).1[p]? ≠ (stW W b).1[p]?)) = TL at htk
  have hTL : TL.length ≤ 12 := by rw [← eTL]; have := List.length_filter_le (fun p => decide ((stW W (b + 1)).1[p]? ≠ (stW W b).1[p]?)) (List.range W.row.length); rw [List.length_range] at this; omega
  have hwc := fun c16 => who_comp hW hb (m := m.set (ρ.length + 1) (shO (tickS S))) (c0 := c0) (c2 := c2) (c3 := c3) (c7 := some (.val (.obj (ρ.length + 1)))) (c8 := c8) (c9 := c9) (c16 := c16)
  rw [eTL] at hwc
  generalize m.set (ρ.length + 1) (shO (tickS S)) = m1 at *
  have hmt : ∀ (r : Env) (mm : Str) (k : Nat) (φ : Fd) (gl : SL), r[7]? = some (some (.val (.obj (ρ.length + 1)))) → List.lookup mm [(("rules" : Str), Cell.val (.tup ((tickS S).rules.map encR))), ("row", .val (.str (tickS S).row)), ("counts", .val (.tup (encC (tickS S).counts))), ("walls", .lst ((tickS S).walls.map D.bl)), ("notes", .lst (tickS S).notes)] = none → sMethC "Shelf" mm 7 k φ gl r m1 = bindR (gl r m1) fun ds m2 => callF k φ (.obj (ρ.length + 1) :: ds) m2 := fun r mm k φ gl hr hn => mt_call hr hs' hn
  unfold b_law17
  rw [seq_nx (r1 := [c0, some (.val (.obj 0)), c2, c3, some (.val (.str W.row)), some (.val (.tup (encB W.bars))), some (.val (.tup (W.rules.map encR))), some (.val (.obj (ρ.length + 1))), c8, c9, none, none, none, none, some (.val (.lst (rowsL (stW W) 30))), some (.val (.int (b : Nat))), some (.val (.lst (encB TL))), none, none, none, none, none, none]) (m1 := m1) (by
    simp only [ev_set, ev_cV]
    rw [mt_call (i := 7) rfl hs rfl]
    simp [htk])]
  have hnw := ne_sh (m := m1) (n := 3) (by decide) (sh_W3 (n := 0) (row := (stW W (b + 1)).1) (bars := W.bars) (rules := W.rules) (SOk.st hW _).k (by omega) (by have := hW.rl; omega) hW.r)
  rw [seq_nx (r1 := [c0, some (.val (.obj 0)), c2, c3, some (.val (.str W.row)), some (.val (.tup (encB W.bars))), some (.val (.tup (W.rules.map encR))), some (.val (.obj (ρ.length + 1))), c8, c9, none, none, none, none, some (.val (.lst (rowsL (stW W) 30))), some (.val (.int (b : Nat))), some (.val (.lst (encB TL))), none, none, none, none, none, none]) (m1 := m1) (by
    simp only [ev_ifS, ev_B, ev_bin]
    rw [hmt [c0, some (.val (.obj 0)), c2, c3, some (.val (.str W.row)), some (.val (.tup (encB W.bars))), some (.val (.tup (W.rules.map encR))), some (.val (.obj (ρ.length + 1))), c8, c9, none, none, none, none, some (.val (.lst (rowsL (stW W) 30))), some (.val (.int (b : Nat))), some (.val (.lst (encB TL))), none, none, none, none, none, none] "world" 1 f_Shelf_world aNil rfl rfl]
    simp [-ev_ne, hwd, r1, h3, hnw])]
  have hal := alike_up (d := .lst (encB TL)) (m := m1) (n := 1) (by decide) (sh_lst (by rw [encB_len]; omega) sh_B)
  have hz : W.row.length ≤ LIM := lim12 (by omega)
  have hin : inR (W.row.length : Int) = true := decide_eq_true (by omega)
  rw [seq_nx (r1 := [c0, some (.val (.obj 0)), c2, c3, some (.val (.str W.row)), some (.val (.tup (encB W.bars))), some (.val (.tup (W.rules.map encR))), some (.val (.obj (ρ.length + 1))), c8, c9, none, none, none, none, some (.val (.lst (rowsL (stW W) 30))), some (.val (.int (b : Nat))), some (.val (.lst (encB TL))), none, none, none, none, none, none]) (m1 := m1) (by
    simp only [ev_ifS, ev_Not, ev_B, ev_call, ev_cons, ev_nil, ev_Lc, ev_var, List.getElem?_cons_succ, List.getElem?_cons_zero, bindR_ok]
    rw [ev_Rg (i := (W.row.length : Int)) (m' := m1) (by simp [hz]), if_pos hin]
    simp only [bindR_ok, rangeL_length]
    rw [if_pos ⟨by simpa using hz, by simp⟩]
    simp only [wipeE_cons, wipeE_nil, List.set_cons_succ, List.set_cons_zero]
    rw [show ((W.row.length : Int).toNat) = W.row.length by omega, hwc]
    simp [hal])]
  have hlk := look_okS hi'.ok hs'
  obtain ⟨Q, hQ, hQo, hQn⟩ := quiet_comp hi'.ok (m := m1) (c0 := c0) (c1 := some (.val (.obj 0))) (c2 := c2) (c3 := c3) (c4 := some (.val (.str W.row))) (c5 := some (.val (.tup (encB W.bars)))) (c6 := some (.val (.tup (W.rules.map encR)))) (c7 := some (.val (.obj (ρ.length + 1)))) (c8 := c8) (c9 := c9) (c10 := none) (c11 := none) (c12 := none) (c13 := none) (c14 := some (.val (.lst (rowsL (stW W) 30)))) (c15 := some (.val (.int (b : Nat)))) (c16 := some (.val (.lst (encB TL)))) (c17 := none) (c18 := none)
  have hlz : (lookS (tickS S)).length ≤ LIM := lim12 (by unfold lookS; rw [List.length_zipWith, List.length_map, hi'.row]; omega)
  have hqe : opEq (.lst Q) (.lst []) m1 = .ok (.bl Q.isEmpty) m1 := by
    rw [ev_eq, if_pos ⟨hQo, rfl⟩]
    cases Q <;> rfl
  rw [seq_nx (r1 := [c0, some (.val (.obj 0)), c2, c3, some (.val (.str W.row)), some (.val (.tup (encB W.bars))), some (.val (.tup (W.rules.map encR))), some (.val (.obj (ρ.length + 1))), c8, c9, none, none, none, none, some (.val (.lst (rowsL (stW W) 30))), some (.val (.int (b : Nat))), some (.val (.lst (encB TL))), none, some (.val (.bl Q.isEmpty)), none, none, none, none]) (m1 := m1) (by
    simp only [ev_set, ev_cV, ev_bin, ev_Lc, ev_It]
    rw [hmt [c0, some (.val (.obj 0)), c2, c3, some (.val (.str W.row)), some (.val (.tup (encB W.bars))), some (.val (.tup (W.rules.map encR))), some (.val (.obj (ρ.length + 1))), c8, c9, none, none, none, none, some (.val (.lst (rowsL (stW W) 30))), some (.val (.int (b : Nat))), some (.val (.lst (encB TL))), none, none, none, none, none, none] "look" 1 f_Shelf_look aNil rfl rfl]
    simp only [ev_nil, bindR_ok, ev_callF]
    rw [if_pos (show ([D.obj (ρ.length + 1)] : List D).length = 1 from rfl), hlk]
    simp only [bindR_ok, itD_l, ofO_some]
    rw [if_pos ⟨hlz, by simp⟩]
    simp only [wipeE_cons, wipeE_nil, List.set_cons_succ, List.set_cons_zero]
    rw [hQ]
    simp [-ev_eq, h0, hqe])]
  rw [seq_nx (r1 := [c0, some (.val (.obj 0)), c2, c3, some (.val (.str W.row)), some (.val (.tup (encB W.bars))), some (.val (.tup (W.rules.map encR))), some (.val (.obj (ρ.length + 1))), c8, c9, none, none, none, none, some (.val (.lst (rowsL (stW W) 30))), some (.val (.int (b : Nat))), some (.val (.lst (encB TL))), none, some (.val (.bl Q.isEmpty)), none, none, none, none]) (m1 := m1) (by
    cases hq : Q.isEmpty with
    | false => simp
    | true =>
      by_cases h20 : b < 20
      · have hz0 : ∀ c ∈ (stW W (b + 1)).2, ∀ x ∈ c, x ≤ 0 := by
          have := hQn (List.isEmpty_iff.mp hq)
          rw [hi'.cs] at this
          exact this
        have hbt := beats_ok (gone_ok hW (b + 1)) (n := 5) (by decide) m1
        have e1 : stW (goneW W (b + 1)) = fun i => stW W (b + 1 + i) := funext (gone_st hW hz0)
        rw [e1] at hbt
        have hbt : f_beats [.tup [.str (stW W (b + 1)).1, .tup (encB W.bars), .tup (W.rules.map encR)], .int 5] m1 = .ok (.lst (rowsL (fun i => stW W (b + 1 + i)) 5)) m1 := hbt
        have ecut : cutL (rowsL (stW W) 30) (some ((b : Int) + 1)) (some ((b : Int) + 6)) = rowsL (fun i => stW W (b + 1 + i)) 5 := by
          have := cut_mid (l := rowsL (stW W) 30) (a := b + 1) (b := b + 6) (by omega) (by simp; omega)
          have e2 : b + 6 - (b + 1) = 5 := by omega
          rw [e2, rows_cut (by omega)] at this
          exact this
        have hn5 := ne_sh (m := m1) (n := 1) (by decide) (rowsL_sh hW (a := b + 1) (k := 5) (by decide))
        have h20' : ((b : Int) < 20) := by omega
        simp only [ev_ifS, ev_And, ev_B, ev_bin, ev_call, ev_cons, ev_nil, ev_var, List.getElem?_cons_succ, List.getElem?_cons_zero, bindR_ok, if_true, ev_pk, ev_c, lt_int, decide_eq_true h20']
        rw [hmt [c0, some (.val (.obj 0)), c2, c3, some (.val (.str W.row)), some (.val (.tup (encB W.bars))), some (.val (.tup (W.rules.map encR))), some (.val (.obj (ρ.length + 1))), c8, c9, none, none, none, none, some (.val (.lst (rowsL (stW W) 30))), some (.val (.int (b : Nat))), some (.val (.lst (encB TL))), none, some (.val (.bl true)), none, none, none, none] "world" 1 f_Shelf_world aNil rfl rfl]
        simp only [ev_nil, bindR_ok, ev_callF]
        rw [if_pos (show ([D.obj (ρ.length + 1)] : List D).length = 1 from rfl), hwd]
        simp [-ev_ne, hbt, ecut, hn5]
      · have h20' : ¬ ((b : Int) < 20) := by omega
        simp [h20'])]
  rfl
theorem rangeL_succ {b n : Nat} : rangeL b (n + 1) = .int b :: rangeL ((b + 1 : Nat) : Int) n := by
  unfold rangeL
  rw [List.range_succ_eq_map, List.map_cons, List.map_map]
  have e0 : D.int ((b : Int) + ((0 : Nat) : Int)) = .int b := by simp
  rw [e0]
  congr 1
  refine List.map_congr_left fun a _ => ?_
  show D.int ((b : Int) + ((a + 1 : Nat) : Int)) = D.int (((b + 1 : Nat) : Int) + (a : Int))
  congr 1
  omega
theorem tick_loop {W : Wld} (hW : WOk W) {c0 c2 c3 c8 c9 : Option Cell} : ∀ (n b : Nat) (S : Shf) (ds : List Deed) (m : Sto), b + n = 29 → TickI W b S ds → Good (ρ ++ [shO S]) m →
    ∃ S' ds' m', TickI W 29 S' ds' ∧ Good (ρ ++ [shO S']) m' ∧ forL g_law18 b_law17 (rangeL b n) [c0, some (.val (.obj 0)), c2, c3, some (.val (.str W.row)), some (.val (.tup (encB W.bars))), some (.val (.tup (W.rules.map encR))), some (.val (.obj (ρ.length + 1))), c8, c9, none, none, none, none, some (.val (.lst (rowsL (stW W) 30))), none, none, none, none, none, none, none, none] m = .nx [c0, some (.val (.obj 0)), c2, c3, some (.val (.str W.row)), some (.val (.tup (encB W.bars))), some (.val (.tup (W.rules.map encR))), some (.val (.obj (ρ.length + 1))), c8, c9, none, none, none, none, some (.val (.lst (rowsL (stW W) 30))), none, none, none, none, none, none, none, none] m'
  | 0, b, S, ds, m, e, hi, hm => by
    have e : b = 29 := by omega
    subst e
    exact ⟨S, ds, m, hi, hm, rfl⟩
  | n + 1, b, S, ds, m, e, hi, hm => by
    obtain ⟨hg, e1⟩ := tick_turn hW (by omega) hi (c0 := c0) (c2 := c2) (c3 := c3) (c8 := c8) (c9 := c9) hm
    obtain ⟨S2, ds2, m2, hi2, hm2, e2⟩ := tick_loop hW (c0 := c0) (c2 := c2) (c3 := c3) (c8 := c8) (c9 := c9) n (b + 1) (tickS S) _ _ (by omega) (hi.tick hW (by omega)) hg
    refine ⟨S2, ds2, m2, hi2, hm2, ?_⟩
    rw [rangeL_succ, forL_step (r' := [c0, some (.val (.obj 0)), c2, c3, some (.val (.str W.row)), some (.val (.tup (encB W.bars))), some (.val (.tup (W.rules.map encR))), some (.val (.obj (ρ.length + 1))), c8, c9, none, none, none, none, some (.val (.lst (rowsL (stW W) 30))), some (.val (.int (b : Nat))), none, none, none, none, none, none, none]) rfl e1]
    exact e2
/-! ### a turn of the law -/
theorem law_turn (c0 : Option Cell) (d : D) (m : Sto) (hm : Good ρ m) : ∃ ρ' m', Good ρ' m' ∧ b_law19 [c0, some (.val (.obj 0)), some (.val (d)), none, none, none, none, none, none, none, none, none, none, none, none, none, none, none, none, none, none, none, none] m = .nx [c0, some (.val (.obj 0)), none, none, none, none, none, none, none, none, none, none, none, none, none, none, none, none, none, none, none, none, none] m' := by
  obtain ⟨W, m1, e1, hWs, g1⟩ := world_ok (jars := 12) (kinds := 4) (many := 5) (jn := 12) (kn := 4) (mn := 5) (by decide) (by decide) rfl (by decide) (by decide) rfl (by decide) rfl m hm
  have hW := hWs.ok (by decide) (by decide) (by decide)
  have h12 := hW.len
  have h0 : (0 : Nat) ≤ LIM := by decide
  have hz : W.row.length ≤ LIM := lim12 (by omega)
  unfold b_law19
  rw [seq_nx (r1 := [c0, some (.val (.obj 0)), some (.val (d)), some (.val (encW W)), none, none, none, none, none, none, none, none, none, none, none, none, none, none, none, none, none, none, none]) (m1 := m1) (by simp [e1])]
  rw [seq_nx (r1 := [c0, some (.val (.obj 0)), some (.val (d)), some (.val (encW W)), some (.val (.str W.row)), some (.val (.tup (encB W.bars))), some (.val (.tup (W.rules.map encR))), none, none, none, none, none, none, none, none, none, none, none, none, none, none, none, none]) (m1 := m1) (by simp [encW])]
  obtain ⟨hl1, g2⟩ := g1.snoc (x := shO (newS W.rules))
  have hmk := made_okS hW m1
  rw [hl1] at hmk
  rw [seq_nx (r1 := [c0, some (.val (.obj 0)), some (.val (d)), some (.val (encW W)), some (.val (.str W.row)), some (.val (.tup (encB W.bars))), some (.val (.tup (W.rules.map encR))), some (.val (.obj (ρ.length + 1))), some (.lst (encB [])), none, none, none, none, none, none, none, none, none, none, none, none, none, none]) (m1 := m1 ++ [shO (newS W.rules)]) (by
    show bindS _ (bindR (bindR (aCons (sVar 6) aNil [c0, some (.val (.obj 0)), some (.val (d)), some (.val (encW W)), some (.val (.str W.row)), some (.val (.tup (encB W.bars))), some (.val (.tup (W.rules.map encR))), none, none, none, none, none, none, none, none, none, none, none, none, none, none, none, none] m1) fun ds m1 => madeF "Shelf" 2 f_Shelf___init__ ds m1) _) _ = _
    rw [show aCons (sVar 6) aNil [c0, some (.val (.obj 0)), some (.val (d)), some (.val (encW W)), some (.val (.str W.row)), some (.val (.tup (encB W.bars))), some (.val (.tup (W.rules.map encR))), none, none, none, none, none, none, none, none, none, none, none, none, none, none, none, none] m1 = .ok [.tup (W.rules.map encR)] m1 from rfl, bindR_ok, hmk]
    simp [h0, encB])]
  have hc : ((0 : Int) ≤ (W.row.length : Int) ∧ (W.row.length : Int) ≤ 1000) := by omega
  rw [seq_nx (r1 := [c0, some (.val (.obj 0)), some (.val (d)), some (.val (encW W)), some (.val (.str W.row)), some (.val (.tup (encB W.bars))), some (.val (.tup (W.rules.map encR))), some (.val (.obj (ρ.length + 1))), some (.lst (encB [])), some (.lst (encB (List.range W.row.length))), none, none, none, none, none, none, none, none, none, none, none, none, none]) (m1 := m1 ++ [shO (newS W.rules)]) (by
    have e : cLstRg (sCall fLen (aCons (sPk 4) aNil)) [c0, some (.val (.obj 0)), some (.val (d)), some (.val (encW W)), some (.val (.str W.row)), some (.val (.tup (encB W.bars))), some (.val (.tup (W.rules.map encR))), some (.val (.obj (ρ.length + 1))), some (.lst (encB [])), none, none, none, none, none, none, none, none, none, none, none, none, none, none] (m1 ++ [shO (newS W.rules)]) = .ok (.lst (encB (List.range W.row.length))) (m1 ++ [shO (newS W.rules)]) := by
      unfold cLstRg
      simp [hz, hc, rangeB]
    rw [ev_set, e]
    rfl)]
  obtain ⟨T, S1, ds1, m2, hL1, hP1, g3, e3⟩ := put_loop hW (c0 := c0) (c2 := some (.val d)) (c3 := some (.val (encW W))) W.row.length 100000 (List.range W.row.length) [] (newS W.rules) [] _ (by simp) (by omega) (PutL.new W) (PutI.new hW) g2
  rw [seq_nx (r1 := [c0, some (.val (.obj 0)), some (.val (d)), some (.val (encW W)), some (.val (.str W.row)), some (.val (.tup (encB W.bars))), some (.val (.tup (W.rules.map encR))), some (.val (.obj (ρ.length + 1))), some (.lst (encB T)), some (.lst (encB [])), none, none, none, none, none, none, none, none, none, none, none, none, none]) (m1 := m2) e3]
  have hB1 := hP1.bars (fun q hq => (hL1.al q hq).resolve_left List.not_mem_nil) (by have := hL1.ln; simpa using this)
  obtain ⟨S2, ds2, m3, hB2, g4, e4⟩ := bar_loop hW (c0 := c0) (c2 := some (.val d)) (c3 := some (.val (encW W))) (c8 := some (.lst (encB T))) (c9 := some (.lst (encB []))) W.bars [] S1 ds1 m2 rfl hB1 g3
  rw [seq_nx (r1 := [c0, some (.val (.obj 0)), some (.val (d)), some (.val (encW W)), some (.val (.str W.row)), some (.val (.tup (encB W.bars))), some (.val (.tup (W.rules.map encR))), some (.val (.obj (ρ.length + 1))), some (.lst (encB T)), some (.lst (encB [])), none, none, none, none, none, none, none, none, none, none, none, none, none]) (m1 := m3) (by
    rw [ev_for]
    simp only [ev_It, ev_var, List.getElem?_cons_succ, List.getElem?_cons_zero, bindR_ok, itD_t, ofO_some, bindS_ok]
    exact e4)]
  have hT0 := hB2.ticks hW
  obtain ⟨hs, hlen, _⟩ := g4.shelf (Y := shO S2)
  have hwd := world_okS hT0.ok hs
  rw [hT0.row, hT0.bs, hT0.ru] at hwd
  have hal := alike_up (d := encW W) (m := m3) (n := 3) (by decide) (sh_W hW)
  have hwd : f_Shelf_world [.obj (ρ.length + 1)] m3 = .ok (encW W) m3 := hwd
  rw [seq_nx (r1 := [c0, some (.val (.obj 0)), some (.val (d)), some (.val (encW W)), some (.val (.str W.row)), some (.val (.tup (encB W.bars))), some (.val (.tup (W.rules.map encR))), some (.val (.obj (ρ.length + 1))), some (.lst (encB T)), some (.lst (encB [])), none, none, none, none, none, none, none, none, none, none, none, none, none]) (m1 := m3) (by
    simp only [ev_ifS, ev_Not, ev_B, ev_call, ev_cons, ev_nil]
    rw [mt_call (i := 7) rfl hs rfl]
    simp [hwd, hal])]
  have hbt := beats_ok hW (n := 30) (by decide) m3
  rw [seq_nx (r1 := [c0, some (.val (.obj 0)), some (.val (d)), some (.val (encW W)), some (.val (.str W.row)), some (.val (.tup (encB W.bars))), some (.val (.tup (W.rules.map encR))), some (.val (.obj (ρ.length + 1))), some (.lst (encB T)), some (.lst (encB [])), none, none, none, none, some (.val (.lst (rowsL (stW W) 30))), none, none, none, none, none, none, none, none]) (m1 := m3) (by
    have hbt : f_beats [encW W, .int 30] m3 = .ok (.lst (rowsL (stW W) 30)) m3 := hbt
    simp [hbt])]
  obtain ⟨S3, ds3, m4, hT3, g5, e5⟩ := tick_loop hW (c0 := c0) (c2 := some (.val d)) (c3 := some (.val (encW W))) (c8 := some (.lst (encB T))) (c9 := some (.lst (encB []))) 29 0 S2 ds2 m3 rfl hT0 g4
  rw [seq_nx (r1 := [c0, some (.val (.obj 0)), some (.val (d)), some (.val (encW W)), some (.val (.str W.row)), some (.val (.tup (encB W.bars))), some (.val (.tup (W.rules.map encR))), some (.val (.obj (ρ.length + 1))), some (.lst (encB T)), some (.lst (encB [])), none, none, none, none, some (.val (.lst (rowsL (stW W) 30))), none, none, none, none, none, none, none, none]) (m1 := m4) (by
    have hin : inR 29 = true := by decide
    rw [ev_for, ev_Rg (i := 29) (m' := m3) (by simp), if_pos hin, bindS_ok]
    exact e5)]
  obtain ⟨hs4, hl4, _⟩ := g5.shelf (Y := shO S3)
  obtain ⟨_, g6⟩ := g5.snoc (x := shO S3)
  have hbl := hW.blen
  have hag := again_ok hW hT3.rn (by have := hT3.ln; omega) m4
  rw [← hT3.fo] at hag
  have hdd := deeds_okS hs4
  have hnt : S3.notes = ds3.map encDd := by
    have := run_notes ds3 (newS W.rules)
    rw [← hT3.fo] at this
    simpa [newS] using this
  rw [hnt] at hdd
  have hs5 : (m4 ++ [shO S3])[ρ.length + 1]? = some (shO S3) := by rw [List.getElem?_append_left (by omega)]; exact hs4
  have hk1 := look_okS hT3.ok (m := m4 ++ [shO S3]) (n := m4.length) end_at
  have hk2 := look_okS hT3.ok hs5
  have hne := ne_sh (m := m4 ++ [shO S3]) (n := 3) (by decide) (sh_look (n := 0) hT3.ok)
  refine ⟨_, _, g6, ?_⟩
  rw [seq_nx (r1 := [c0, some (.val (.obj 0)), some (.val (d)), some (.val (encW W)), some (.val (.str W.row)), some (.val (.tup (encB W.bars))), some (.val (.tup (W.rules.map encR))), some (.val (.obj (ρ.length + 1))), some (.lst (encB T)), some (.lst (encB [])), none, none, none, none, some (.val (.lst (rowsL (stW W) 30))), none, none, none, none, none, none, none, none]) (m1 := m4 ++ [shO S3]) (by
    have eA : sMethX "Shelf" "look" f_Shelf_look (sCall (callF 2 f_again) (aCons (sVar 6) (aCons (sMethC "Shelf" "deeds" 7 1 f_Shelf_deeds (aNil)) (aNil)))) [c0, some (.val (.obj 0)), some (.val (d)), some (.val (encW W)), some (.val (.str W.row)), some (.val (.tup (encB W.bars))), some (.val (.tup (W.rules.map encR))), some (.val (.obj (ρ.length + 1))), some (.lst (encB T)), some (.lst (encB [])), none, none, none, none, some (.val (.lst (rowsL (stW W) 30))), none, none, none, none, none, none, none, none] m4 = .ok (.lst (lookS S3)) (m4 ++ [shO S3]) := by
      unfold sMethX
      simp only [ev_call, ev_cons, ev_nil, ev_var, bindR_ok, List.getElem?_cons_succ, List.getElem?_cons_zero]
      rw [mt_call (i := 7) rfl hs4 rfl]
      simp only [ev_var, ev_nil, bindR_ok, ev_callF, List.getElem?_cons_succ, List.getElem?_cons_zero]
      rw [if_pos (show ([D.obj (ρ.length + 1)] : List D).length = 1 from rfl)]
      simp only [hdd, bindR_ok]
      rw [if_pos (show ([D.tup (W.rules.map encR), .lst (ds3.map encDd)] : List D).length = 2 from rfl), hag, bindR_ok]
      dsimp only
      rw [end_at]
      show (if ("Shelf" : Str) = "Shelf" ∧ List.lookup ("look" : Str) _ = none then callF 1 f_Shelf_look [.obj m4.length] (m4 ++ [shO S3]) else .bad) = _
      rw [if_pos ⟨rfl, rfl⟩, ev_callF, if_pos (show ([D.obj m4.length] : List D).length = 1 from rfl), hk1]
    simp only [ev_ifS, ev_B, ev_bin]
    rw [eA]
    simp only [bindR_ok]
    rw [mt_call (i := 7) rfl hs5 rfl]
    simp [-ev_ne, hk2, hne])]
  rfl
theorem law_loop (c0 : Option Cell) : ∀ (l : List D) (ρ m : Sto), Good ρ m → ∃ m', forL g_law20 b_law19 l [c0, some (.val (.obj 0)), none, none, none, none, none, none, none, none, none, none, none, none, none, none, none, none, none, none, none, none, none] m = .nx [c0, some (.val (.obj 0)), none, none, none, none, none, none, none, none, none, none, none, none, none, none, none, none, none, none, none, none, none] m'
  | [], ρ, m, _ => ⟨m, rfl⟩
  | d :: l, ρ, m, hm => by
    obtain ⟨ρ1, m1, g1, e⟩ := law_turn c0 d m hm
    obtain ⟨m2, e2⟩ := law_loop c0 l ρ1 m1 g1
    exact ⟨m2, by rw [forL_step (r' := [c0, some (.val (.obj 0)), some (.val (d)), none, none, none, none, none, none, none, none, none, none, none, none, none, none, none, none, none, none, none, none]) rfl e, e2]⟩
theorem law_ok : LawOk n_law 61 b_law := by
  intro a ns hl
  obtain ⟨m, e⟩ := law_loop (some (.val (.cst (.ref a)))) (rangeL 0 4) [] _ (good_start hl)
  refine ⟨m, ?_⟩
  show b_law [some (.val (.cst (.ref a))), some (.val (.obj 0)), none, none, none, none, none, none, none, none, none, none, none, none, none, none, none, none, none, none, none, none, none] _ = _
  unfold b_law
  rw [seq_nx (r1 := [some (.val (.cst (.ref a))), some (.val (.obj 0)), none, none, none, none, none, none, none, none, none, none, none, none, none, none, none, none, none, none, none, none, none]) (m1 := m) (by
    have hin : inR 4 = true := by decide
    rw [ev_for, ev_Rg (i := 4) (m' := [.drw (mixS ns 61) ns 0]) (by simp), if_pos hin, bindS_ok]
    exact e)]
  simp
end Dl
namespace Dl
open PySem PySem.Spec PyProof.Rows L2 TL
def iniS : Stmt → Stmt
  | .ClassDef _ _ _ b _ _ _ _ _ _ _ => b.getD 0 (.Pass ⟨0, 0, 0, 0⟩)
  | s => s
def top (i : Nat) : Stmt := PySem.Challenge.pw_sourrow_k17_whole_shelves_and_rows.main.body.getD i (.Pass ⟨0, 0, 0, 0⟩)
abbrev ini (i : Nat) : Stmt := iniS (top i)
def clsS (j : Nat) : Stmt → Stmt
  | .ClassDef _ _ _ b _ _ _ _ _ _ _ => b.getD j (.Pass ⟨0, 0, 0, 0⟩)
  | s => s
abbrev s_is_kind : Stmt := top 13
abbrev s_is_rule : Stmt := top 16
abbrev s_need_rules : Stmt := top 17
abbrev s_Shelf___init__ : Stmt := clsS 0 (top 31)
abbrev s_Shelf_need_place : Stmt := clsS 2 (top 31)
abbrev s_Shelf_bar : Stmt := clsS 4 (top 31)
abbrev s_Shelf_deeds : Stmt := clsS 10 (top 31)
abbrev s_Shelf_look : Stmt := clsS 8 (top 31)
abbrev s_Shelf_put : Stmt := clsS 1 (top 31)
abbrev s_beside : Stmt := top 19
abbrev s_counted : Stmt := top 20
abbrev s_turned : Stmt := top 21
abbrev s_beat_of : Stmt := top 23
abbrev s_Shelf_bars : Stmt := clsS 6 (top 31)
abbrev s_Shelf_tick : Stmt := clsS 7 (top 31)
abbrev s_Shelf_world : Stmt := clsS 9 (top 31)
abbrev s_Shelf_take : Stmt := clsS 3 (top 31)
abbrev s_Shelf_unbar : Stmt := clsS 5 (top 31)
abbrev s_do : Stmt := top 32
abbrev s_again : Stmt := top 33
abbrev s_need_row : Stmt := top 14
abbrev s_need_bars : Stmt := top 15
abbrev s_need_world : Stmt := top 18
abbrev s_begun : Stmt := top 22
abbrev s_beats : Stmt := top 36
abbrev s__law_next : Stmt := top 39
abbrev s__law_alike : Stmt := top 40
abbrev s__law_rules : Stmt := top 41
abbrev s__law_world : Stmt := top 42
abbrev s__law_mix : Stmt := top 38
abbrev s_law : Stmt := top 43
/-- what the top has left -/
structure GT (K : PySem.W.Frag) (mg : Str → Option Value) (t : Tf) (w : World) : Prop where
  d_is_kind : DefIs K mg "is_kind" s_is_kind
  d_is_rule : DefIs K mg "is_rule" s_is_rule
  d_need_rules : DefIs K mg "need_rules" s_need_rules
  mi_Shelf___init__ : MetIs K (t.T 0) "__init__" "Shelf.__init__" s_Shelf___init__
  mi_Shelf_need_place : MetIs K (t.T 0) "need_place" "Shelf.need_place" s_Shelf_need_place
  mi_Shelf_bar : MetIs K (t.T 0) "bar" "Shelf.bar" s_Shelf_bar
  mi_Shelf_deeds : MetIs K (t.T 0) "deeds" "Shelf.deeds" s_Shelf_deeds
  mi_Shelf_look : MetIs K (t.T 0) "look" "Shelf.look" s_Shelf_look
  mi_Shelf_put : MetIs K (t.T 0) "put" "Shelf.put" s_Shelf_put
  d_beside : DefIs K mg "beside" s_beside
  d_counted : DefIs K mg "counted" s_counted
  d_turned : DefIs K mg "turned" s_turned
  d_beat_of : DefIs K mg "beat_of" s_beat_of
  mi_Shelf_bars : MetIs K (t.T 0) "bars" "Shelf.bars" s_Shelf_bars
  mi_Shelf_tick : MetIs K (t.T 0) "tick" "Shelf.tick" s_Shelf_tick
  mi_Shelf_world : MetIs K (t.T 0) "world" "Shelf.world" s_Shelf_world
  mi_Shelf_take : MetIs K (t.T 0) "take" "Shelf.take" s_Shelf_take
  mi_Shelf_unbar : MetIs K (t.T 0) "unbar" "Shelf.unbar" s_Shelf_unbar
  d_do : DefIs K mg "do" s_do
  d_again : DefIs K mg "again" s_again
  d_need_row : DefIs K mg "need_row" s_need_row
  d_need_bars : DefIs K mg "need_bars" s_need_bars
  d_need_world : DefIs K mg "need_world" s_need_world
  d_begun : DefIs K mg "begun" s_begun
  d_beats : DefIs K mg "beats" s_beats
  d__law_next : DefIs K mg "_law_next" s__law_next
  d__law_alike : DefIs K mg "_law_alike" s__law_alike
  d__law_rules : DefIs K mg "_law_rules" s__law_rules
  d__law_world : DefIs K mg "_law_world" s__law_world
  d__law_mix : DefIs K mg "_law_mix" s__law_mix
  d_law : DefIs K mg "law" s_law
  mf_Shelf : MkF K mg "Shelf" (t.T 0)
  na_Shelf_counts : NoAttr K (t.T 0) "counts"
  na_Shelf_notes : NoAttr K (t.T 0) "notes"
  na_Shelf_row : NoAttr K (t.T 0) "row"
  na_Shelf_rules : NoAttr K (t.T 0) "rules"
  na_Shelf_walls : NoAttr K (t.T 0) "walls"
  g_BAR : ∃ t, mg "BAR" = some (.str "bar" t)
  g_BEAT : ∃ t, mg "BEAT" = some (.str "tick" t)
  g_KINDS : ∃ t, mg "KINDS" = some (.str "abcde" t)
  g_MOST_BEATS : ∃ t, mg "MOST_BEATS" = some (.int 4 t)
  g_MOST_JARS : ∃ t, mg "MOST_JARS" = some (.int 12 t)
  g_MOST_NEAR : ∃ t, mg "MOST_NEAR" = some (.int 300 t)
  g_MOST_RULES : ∃ t, mg "MOST_RULES" = some (.int 5 t)
  g_OPEN : ∃ t, mg "OPEN" = some (.str "unbar" t)
  g_PUT : ∃ t, mg "PUT" = some (.str "put" t)
  g_TAKE : ∃ t, mg "TAKE" = some (.str "take" t)
  kt_SIZES : KTab K mg w "SIZES" [([112, 117, 116], 3), ([116, 97, 107, 101], 2), ([98, 97, 114], 2), ([117, 110, 98, 97, 114], 2), ([116, 105, 99, 107], 1)]
  z_bool : mg "bool" = none
  z_enumerate : mg "enumerate" = none
  z_int : mg "int" = none
  z_isinstance : mg "isinstance" = none
  z_len : mg "len" = none
  z_list : mg "list" = none
  z_max : mg "max" = none
  z_min : mg "min" = none
  z_range : mg "range" = none
  z_str : mg "str" = none
  z_tuple : mg "tuple" = none
  z_zip : mg "zip" = none
section
variable {P : Program} {w : World} {K : PySem.W.Frag} {mg : Str → Option Value} {base : Heap} {t : Tf}
theorem sc_is_kind : FnScope n_is_kind ["sign"] (defScope s_is_kind) := ⟨rfl, rfl, rfl, by decide +kernel, rfl, by decide +kernel, by decide +kernel⟩
theorem c_is_kind (T : GT K mg t w) : Cal P w K mg base 1 "is_kind" 1 t f_is_kind :=
  Cal.of (k := 0) T.d_is_kind sc_is_kind (fun _ _ _ _ _ _ us hl => match us, hl with | [_], _ => rfl) fun f cdv A outer s H E hr =>
    dss_one (ds_ret (de_and (de_eq hr.units ((de_len (by rfl) T.z_len (dk_var (pv 0))).k) ((de_int).k)) (de_one (de_in (dk_var (pv 0)) ((de_gstrE [97, 98, 99, 100, 101] (by rfl) T.g_KINDS).k)))))
theorem sc_is_rule : FnScope n_is_rule ["rule"] (defScope s_is_rule) := ⟨rfl, rfl, rfl, by decide +kernel, rfl, by decide +kernel, by decide +kernel⟩
theorem c_is_rule (T : GT K mg t w) : Cal P w K mg base 2 "is_rule" 1 t f_is_rule :=
  Cal.of (k := 1) T.d_is_rule sc_is_rule (fun _ _ _ _ _ _ us hl => match us, hl with | [_], _ => rfl) fun f cdv A outer s H E hr =>
    dss_cons (ds_if (dt_w (dw_or (dt_ne hr.units ((de_len (by rfl) T.z_len (dk_var (pv 0))).k) ((de_int).k)) (dw_or (dt_not (dt_val (de_callC (c_is_kind T) (hr.mono (by decide)) (by rfl) (takes_of rfl rfl rfl rfl) (da_cons (de_ix (dk_var (pv 0)) ((de_int).k)) (da_nil))))) (dw_or (dt_not (dt_val (de_callC (c_is_kind T) (hr.mono (by decide)) (by rfl) (takes_of rfl rfl rfl rfl) (da_cons (de_ix (dk_var (pv 0)) ((de_int).k)) (da_nil))))) (dw_or1 (dt_not (dt_val (de_callC (c_is_kind T) (hr.mono (by decide)) (by rfl) (takes_of rfl rfl rfl rfl) (da_cons (de_ix (dk_var (pv 0)) ((de_int).k)) (da_nil)))))))))) (dss_one (ds_ret (de_bl))) (dss_nil)) (dss_one (ds_ret (de_and (de_ne hr.units ((de_ix (dk_var (pv 0)) ((de_int).k)).k) ((de_ix (dk_var (pv 0)) ((de_int).k)).k)) (de_and (de_lele ((de_int).k) ((de_ix (dk_var (pv 0)) ((de_int).k)).k) ((de_int).k)) (de_one (de_lele ((de_int).k) ((de_ix (dk_var (pv 0)) ((de_int).k)).k) ((de_gintE (by rfl) T.g_MOST_BEATS).k)))))))
theorem sc_need_rules : FnScope n_need_rules ["rules"] (defScope s_need_rules) := ⟨rfl, rfl, rfl, by decide +kernel, rfl, by decide +kernel, by decide +kernel⟩
theorem c_need_rules (T : GT K mg t w) : Cal P w K mg base 3 "need_rules" 1 t f_need_rules :=
  Cal.of (k := 2) T.d_need_rules sc_need_rules (fun _ _ _ _ _ _ us hl => match us, hl with | [_], _ => rfl) fun f cdv A outer s H E hr =>
    dss_one (ds_for (passes_of rfl) rfl (di_en (by rfl) T.z_enumerate (da_cons (de_var (pv 0)) (da_nil))) (dg_tup rfl (dgs_cons (dg_name (i := 1) sc_need_rules.nd rfl (by first | exact Or.inl rfl | exact Or.inr rfl)) (dgs_cons (dg_name (i := 2) sc_need_rules.nd rfl (by first | exact Or.inl rfl | exact Or.inr rfl)) (dgs_nil))) (tk_cons (tk_cons (tk_nil)))) (dss_cons (ds_if (dt_w (dw_or (dt_eq hr.units (dk_var (pv 1)) ((de_gintE (by rfl) T.g_MOST_RULES).k)) (dw_or1 (dt_not (dt_val (de_callC (c_is_rule T) (hr.mono (by decide)) (by rfl) (takes_of rfl rfl rfl rfl) (da_cons (de_var (pv 2)) (da_nil)))))))) (dss_one (ds_never)) (dss_nil)) (dss_forget 1 (dss_forget 2 (dss_nil)))))
theorem sc_Shelf___init__ : FnScope n_Shelf___init__ ["self", "rules"] (defScope s_Shelf___init__) := ⟨rfl, rfl, rfl, by decide +kernel, rfl, by decide +kernel, by decide +kernel⟩
theorem c_Shelf___init__ (T : GT K mg t w) : Maker P w K mg base 4 "Shelf" 2 t f_Shelf___init__ :=
  Maker.of (k := 3) T.mf_Shelf T.mi_Shelf___init__ sc_Shelf___init__ (fun _ _ _ _ _ _ us hl => match us, hl with | [_, _], _ => rfl) fun f cdv A outer s H E hr =>
    dss_cons (ds_expr (de_callC (c_need_rules T) (hr.mono (by decide)) (by rfl) (takes_of rfl rfl rfl rfl) (da_cons (de_var (pv 1)) (da_nil)))) (dss_cons (ds_setF T.mf_Shelf.s T.na_Shelf_rules (pv 0) (dc_val (de_tuple (by rfl) T.z_tuple ((de_lc [("rule", 2)] rfl sc_Shelf___init__.nd (di_any (de_var (pv 1))) (blkOk_by (N := n_Shelf___init__) (sc := defScope s_Shelf___init__) (by decide +kernel)) (fun _ _ _ _ _ => dg_name (i := 2) sc_Shelf___init__.nd rfl (by first | exact Or.inl rfl | exact Or.inr rfl)) (fun _ _ _ _ _ => dts_nil) (fun _ _ _ _ _ => de_tuple (by rfl) T.z_tuple (dk_var (pv 2)))).k)))) (dss_cons (ds_setF T.mf_Shelf.s T.na_Shelf_row (pv 0) (dc_val (de_str []))) (dss_cons (ds_setF T.mf_Shelf.s T.na_Shelf_counts (pv 0) (dc_val (de_tup (da_nil)))) (dss_cons (ds_setF T.mf_Shelf.s T.na_Shelf_walls (pv 0) (dc_own (da_nil))) (dss_one (ds_setF T.mf_Shelf.s T.na_Shelf_notes (pv 0) (dc_own (da_nil))))))))
theorem sc_Shelf_need_place : FnScope n_Shelf_need_place ["self", "place", "most"] (defScope s_Shelf_need_place) := ⟨rfl, rfl, rfl, by decide +kernel, rfl, by decide +kernel, by decide +kernel⟩
theorem c_Shelf_need_place (T : GT K mg t w) : MCal P w K mg base 1 "Shelf" "need_place" 3 t f_Shelf_need_place :=
  MCal.of (k := 0) T.mf_Shelf T.mi_Shelf_need_place sc_Shelf_need_place (fun _ _ _ _ _ _ us hl => match us, hl with | [_, _, _], _ => rfl) fun f cdv A outer s H E hr =>
    dss_one (ds_if (dt_not (dt_lelt ((de_int).k) (dk_var (pv 1)) (dk_var (pv 2)))) (dss_one (ds_never)) (dss_nil))
theorem sc_Shelf_bar : FnScope n_Shelf_bar ["self", "place"] (defScope s_Shelf_bar) := ⟨rfl, rfl, rfl, by decide +kernel, rfl, by decide +kernel, by decide +kernel⟩
theorem c_Shelf_bar (T : GT K mg t w) : MCal P w K mg base 3 "Shelf" "bar" 2 t f_Shelf_bar :=
  MCal.of (k := 2) T.mf_Shelf T.mi_Shelf_bar sc_Shelf_bar (fun _ _ _ _ _ _ us hl => match us, hl with | [_, _], _ => rfl) fun f cdv A outer s H E hr =>
    dss_cons (ds_expr (de_meth (c_Shelf_need_place T) (hr.mono (by decide)) (takes_of rfl rfl rfl rfl) (pv 0) (da_cons (de_var (pv 1)) (da_cons (de_len (by rfl) T.z_len ((de_fld T.mf_Shelf.s T.na_Shelf_row (pv 0)).k)) (da_nil))))) (dss_cons (ds_if (dt_val (de_ixF T.mf_Shelf.s T.na_Shelf_walls (pv 0) (dq_var (pv 1)))) (dss_one (ds_never)) (dss_nil)) (dss_cons (ds_putF T.mf_Shelf.s T.na_Shelf_walls (pv 0) (dq_var (pv 1)) (dq_bl)) (dss_one (ds_appF T.mf_Shelf.s T.na_Shelf_notes (pv 0) (dq_tup (dqs_cons (dq_gstrE [98, 97, 114] (by rfl) T.g_BAR) (dqs_cons (dq_var (pv 1)) (dqs_nil))))))))
theorem sc_Shelf_deeds : FnScope n_Shelf_deeds ["self"] (defScope s_Shelf_deeds) := ⟨rfl, rfl, rfl, by decide +kernel, rfl, by decide +kernel, by decide +kernel⟩
theorem c_Shelf_deeds (T : GT K mg t w) : MCal P w K mg base 1 "Shelf" "deeds" 1 t f_Shelf_deeds :=
  MCal.of (k := 0) T.mf_Shelf T.mi_Shelf_deeds sc_Shelf_deeds (fun _ _ _ _ _ _ us hl => match us, hl with | [_], _ => rfl) fun f cdv A outer s H E hr =>
    dss_one (ds_ret (de_listF T.mf_Shelf.s T.na_Shelf_notes (by rfl) T.z_list (pv 0)))
theorem sc_Shelf_look : FnScope n_Shelf_look ["self"] (defScope s_Shelf_look) := ⟨rfl, rfl, rfl, by decide +kernel, rfl, by decide +kernel, by decide +kernel⟩
theorem c_Shelf_look (T : GT K mg t w) : MCal P w K mg base 1 "Shelf" "look" 1 t f_Shelf_look :=
  MCal.of (k := 0) T.mf_Shelf T.mi_Shelf_look sc_Shelf_look (fun _ _ _ _ _ _ us hl => match us, hl with | [_], _ => rfl) fun f cdv A outer s H E hr =>
    dss_one (ds_ret (de_lc [("kind", 1), ("some", 2), ("wall", 3)] rfl sc_Shelf_look.nd (di_any (de_look T.mf_Shelf.s T.na_Shelf_row T.na_Shelf_counts T.na_Shelf_walls rfl (by rfl) T.z_list (by rfl) T.z_zip (pv 0) (pv 0) (pv 0))) (blkOk_by (N := n_Shelf_look) (sc := defScope s_Shelf_look) (by decide +kernel)) (fun _ _ _ _ _ => dg_tup rfl (dgs_cons (dg_name (i := 1) sc_Shelf_look.nd rfl (by first | exact Or.inl rfl | exact Or.inr rfl)) (dgs_cons (dg_name (i := 2) sc_Shelf_look.nd rfl (by first | exact Or.inl rfl | exact Or.inr rfl)) (dgs_cons (dg_name (i := 3) sc_Shelf_look.nd rfl (by first | exact Or.inl rfl | exact Or.inr rfl)) (dgs_nil)))) (tk_cons (tk_cons (tk_cons (tk_nil))))) (fun _ _ _ _ _ => dts_nil) (fun _ _ _ _ _ => de_tup (da_cons (de_var (pv 1)) (da_cons (de_var (pv 2)) (da_cons (de_var (pv 3)) (da_nil)))))))
theorem sc_Shelf_put : FnScope n_Shelf_put ["self", "place", "kind"] (defScope s_Shelf_put) := ⟨rfl, rfl, rfl, by decide +kernel, rfl, by decide +kernel, by decide +kernel⟩
theorem c_Shelf_put (T : GT K mg t w) : MCal P w K mg base 2 "Shelf" "put" 3 t f_Shelf_put :=
  MCal.of (k := 1) T.mf_Shelf T.mi_Shelf_put sc_Shelf_put (fun _ _ _ _ _ _ us hl => match us, hl with | [_, _, _], _ => rfl) fun f cdv A outer s H E hr =>
    dss_cons (ds_if (dt_not (dt_lele ((de_int).k) (dk_var (pv 1)) ((de_len (by rfl) T.z_len ((de_fld T.mf_Shelf.s T.na_Shelf_row (pv 0)).k)).k))) (dss_one (ds_never)) (dss_nil)) (dss_cons (ds_if (dt_not (dt_val (de_callC (c_is_kind T) (hr.mono (by decide)) (by rfl) (takes_of rfl rfl rfl rfl) (da_cons (de_var (pv 2)) (da_nil))))) (dss_one (ds_never)) (dss_nil)) (dss_cons (ds_if (dt_eq hr.units ((de_len (by rfl) T.z_len ((de_fld T.mf_Shelf.s T.na_Shelf_row (pv 0)).k)).k) ((de_gintE (by rfl) T.g_MOST_JARS).k)) (dss_one (ds_never)) (dss_nil)) (dss_cons (ds_setF T.mf_Shelf.s T.na_Shelf_row (pv 0) (dc_val (de_add ((de_add ((de_sl ((de_fld T.mf_Shelf.s T.na_Shelf_row (pv 0)).k) (do_none) (do_some (dk_var (pv 1)))).k) (dk_var (pv 2))).k) ((de_sl ((de_fld T.mf_Shelf.s T.na_Shelf_row (pv 0)).k) (do_some (dk_var (pv 1))) (do_none)).k)))) (dss_cons (ds_setF T.mf_Shelf.s T.na_Shelf_counts (pv 0) (dc_val (de_add ((de_add ((de_sl ((de_fld T.mf_Shelf.s T.na_Shelf_counts (pv 0)).k) (do_none) (do_some (dk_var (pv 1)))).k) ((de_tup (da_cons (de_mul ((de_tup (da_cons (de_int) (da_nil))).k) ((de_len (by rfl) T.z_len ((de_fld T.mf_Shelf.s T.na_Shelf_rules (pv 0)).k)).k)) (da_nil))).k)).k) ((de_sl ((de_fld T.mf_Shelf.s T.na_Shelf_counts (pv 0)).k) (do_some (dk_var (pv 1))) (do_none)).k)))) (dss_cons (ds_setF T.mf_Shelf.s T.na_Shelf_walls (pv 0) (dc_cat ((de_add ((de_slF T.mf_Shelf.s T.na_Shelf_walls (pv 0) (dqo_none) (dqo_some (dq_var (pv 1)))).k) ((de_lst (da_cons (de_bl) (da_nil))).k)).k) ((de_slF T.mf_Shelf.s T.na_Shelf_walls (pv 0) (dqo_some (dq_var (pv 1))) (dqo_none)).k))) (dss_one (ds_appF T.mf_Shelf.s T.na_Shelf_notes (pv 0) (dq_tup (dqs_cons (dq_gstrE [112, 117, 116] (by rfl) T.g_PUT) (dqs_cons (dq_var (pv 1)) (dqs_cons (dq_var (pv 2)) (dqs_nil))))))))))))
theorem sc_beside : FnScope n_beside ["row", "bars", "place"] (defScope s_beside) := ⟨rfl, rfl, rfl, by decide +kernel, rfl, by decide +kernel, by decide +kernel⟩
theorem c_beside (T : GT K mg t w) : Cal P w K mg base 1 "beside" 3 t f_beside :=
  Cal.of (k := 0) T.d_beside sc_beside (fun _ _ _ _ _ _ us hl => match us, hl with | [_, _, _], _ => rfl) fun f cdv A outer s H E hr =>
    dss_cons (ds_set (i := 3) sc_beside.nd rfl (by first | exact Or.inl rfl | exact Or.inr rfl) (dc_own (da_nil))) (dss_cons (ds_if (dt_w (dw_and (dt_gt (dk_var (pv 2)) ((de_int).k)) (dw_and1 (dt_nin ((de_sub (dk_var (pv 2)) ((de_int).k)).k) (dk_var (pv 1)))))) (dss_one (ds_appD (i := 3) (pv 3) (de_ix (dk_var (pv 0)) ((de_sub (dk_var (pv 2)) ((de_int).k)).k)))) (dss_nil)) (dss_cons (ds_if (dt_w (dw_and (dt_lt (dk_var (pv 2)) ((de_sub ((de_len (by rfl) T.z_len (dk_var (pv 0))).k) ((de_int).k)).k)) (dw_and1 (dt_nin (dk_var (pv 2)) (dk_var (pv 1)))))) (dss_one (ds_appD (i := 3) (pv 3) (de_ix (dk_var (pv 0)) ((de_add (dk_var (pv 2)) ((de_int).k)).k)))) (dss_nil)) (dss_freeze 3 (dss_one (ds_ret (de_var (pv 3)))))))
theorem sc_counted : FnScope n_counted ["row", "bars", "rules", "counts"] (defScope s_counted) := ⟨rfl, rfl, rfl, by decide +kernel, rfl, by decide +kernel, by decide +kernel⟩
theorem c_counted (T : GT K mg t w) : Cal P w K mg base 2 "counted" 4 t f_counted :=
  Cal.of (k := 1) T.d_counted sc_counted (fun _ _ _ _ _ _ us hl => match us, hl with | [_, _, _, _], _ => rfl) fun f cdv A outer s H E hr =>
    dss_cons (ds_set (i := 4) sc_counted.nd rfl (by first | exact Or.inl rfl | exact Or.inr rfl) (dc_own (da_nil))) (dss_cons (ds_for (passes_of rfl) rfl (di_en (by rfl) T.z_enumerate (da_cons (de_var (pv 0)) (da_nil))) (dg_tup rfl (dgs_cons (dg_name (i := 5) sc_counted.nd rfl (by first | exact Or.inl rfl | exact Or.inr rfl)) (dgs_cons (dg_name (i := 6) sc_counted.nd rfl (by first | exact Or.inl rfl | exact Or.inr rfl)) (dgs_nil))) (tk_cons (tk_cons (tk_nil)))) (dss_cons (ds_set (i := 7) sc_counted.nd rfl (by first | exact Or.inl rfl | exact Or.inr rfl) (dc_val (de_callC (c_beside T) (hr.mono (by decide)) (by rfl) (takes_of rfl rfl rfl rfl) (da_cons (de_var (pv 0)) (da_cons (de_var (pv 1)) (da_cons (de_var (pv 5)) (da_nil))))))) (dss_cons (ds_set (i := 8) sc_counted.nd rfl (by first | exact Or.inl rfl | exact Or.inr rfl) (dc_own (da_nil))) (dss_cons (ds_for (passes_of rfl) rfl (di_zip (by rfl) T.z_zip (da_cons (de_var (pv 2)) (da_cons (de_ix (dk_var (pv 3)) (dk_var (pv 5))) (da_nil)))) (dg_tup rfl (dgs_cons (dg_name (i := 9) sc_counted.nd rfl (by first | exact Or.inl rfl | exact Or.inr rfl)) (dgs_cons (dg_name (i := 10) sc_counted.nd rfl (by first | exact Or.inl rfl | exact Or.inr rfl)) (dgs_nil))) (tk_cons (tk_cons (tk_nil)))) (dss_cons (ds_set (i := 11) sc_counted.nd rfl (by first | exact Or.inl rfl | exact Or.inr rfl) (dc_val (de_and (de_eq hr.units ((de_ix (dk_var (pv 9)) ((de_int).k)).k) (dk_var (pv 6))) (de_one (de_ge ((de_cnt (dk_var (pv 7)) ((de_ix (dk_var (pv 9)) ((de_int).k)).k)).k) ((de_ix (dk_var (pv 9)) ((de_int).k)).k)))))) (dss_cons (ds_appD (i := 8) (pv 8) (de_if (dt_val (de_var (pv 11))) (de_min rfl (by rfl) T.z_min ((de_ix (dk_var (pv 9)) ((de_int).k)).k) ((de_add (dk_var (pv 10)) ((de_int).k)).k)) (de_int))) (dss_forget 9 (dss_forget 10 (dss_forget 11 (dss_nil))))))) (dss_cons (ds_appD (i := 4) (pv 4) (de_tuple (by rfl) T.z_tuple (dk_var (pv 8)))) (dss_forget 5 (dss_forget 6 (dss_forget 7 (dss_forget 8 (dss_forget 9 (dss_forget 10 (dss_forget 11 (dss_nil))))))))))))) (dss_freeze 4 (dss_one (ds_ret (de_var (pv 4))))))
theorem sc_turned : FnScope n_turned ["row", "rules", "counts"] (defScope s_turned) := ⟨rfl, rfl, rfl, by decide +kernel, rfl, by decide +kernel, by decide +kernel⟩
theorem c_turned (T : GT K mg t w) : Cal P w K mg base 1 "turned" 3 t f_turned :=
  Cal.of (k := 0) T.d_turned sc_turned (fun _ _ _ _ _ _ us hl => match us, hl with | [_, _, _], _ => rfl) fun f cdv A outer s H E hr =>
    dss_cons (ds_par (i := 3) (j := 4) rfl sc_turned.nd rfl rfl (by decide) rfl rfl (dc_own (da_nil)) (dc_own (da_nil)) (by rfl)) (dss_cons (ds_for (passes_of rfl) rfl (di_zip (by rfl) T.z_zip (da_cons (de_var (pv 0)) (da_cons (de_var (pv 2)) (da_nil)))) (dg_tup rfl (dgs_cons (dg_name (i := 5) sc_turned.nd rfl (by first | exact Or.inl rfl | exact Or.inr rfl)) (dgs_cons (dg_name (i := 6) sc_turned.nd rfl (by first | exact Or.inl rfl | exact Or.inr rfl)) (dgs_nil))) (tk_cons (tk_cons (tk_nil)))) (dss_cons (ds_setLc (k := 7) [("rule", 8), ("count", 9)] rfl sc_turned.nd rfl rfl (sw_true rfl rfl rfl (by decide +kernel)) (di_zip (by rfl) T.z_zip (da_cons (de_var (pv 1)) (da_cons (de_var (pv 6)) (da_nil)))) (blkOk_by (N := n_turned) (sc := defScope s_turned) (by decide +kernel)) (fun _ _ _ _ _ => dg_tup rfl (dgs_cons (dg_name (i := 8) sc_turned.nd rfl (by first | exact Or.inl rfl | exact Or.inr rfl)) (dgs_cons (dg_name (i := 9) sc_turned.nd rfl (by first | exact Or.inl rfl | exact Or.inr rfl)) (dgs_nil))) (tk_cons (tk_cons (tk_nil)))) (fun _ _ _ _ _ => dts_one (dt_eq hr.units (dk_var (pv 9)) ((de_ix (dk_var (pv 8)) ((de_int).k)).k))) (fun _ _ _ _ _ => de_ix (dk_var (pv 8)) ((de_int).k))) (dss_cons (ds_appD (i := 3) (pv 3) (de_if (dt_ne hr.units (dk_var (pv 7)) ((de_lst (da_nil)).k)) (de_ix (dk_var (pv 7)) ((de_int).k)) (de_var (pv 5)))) (dss_cons (ds_appD (i := 4) (pv 4) (de_if (dt_ne hr.units (dk_var (pv 7)) ((de_lst (da_nil)).k)) (de_mul ((de_tup (da_cons (de_int) (da_nil))).k) ((de_len (by rfl) T.z_len (dk_var (pv 1))).k)) (de_var (pv 6)))) (dss_forget 5 (dss_forget 6 (dss_forget 7 (dss_nil)))))))) (dss_one (ds_ret (de_tup (da_cons (de_join ((de_str []).k) (dk_var (pv 3))) (da_cons (de_tuple (by rfl) T.z_tuple (dk_var (pv 4))) (da_nil)))))))
theorem sc_beat_of : FnScope n_beat_of ["world", "row", "counts"] (defScope s_beat_of) := ⟨rfl, rfl, rfl, by decide +kernel, rfl, by decide +kernel, by decide +kernel⟩
theorem c_beat_of (T : GT K mg t w) : Cal P w K mg base 3 "beat_of" 3 t f_beat_of :=
  Cal.of (k := 2) T.d_beat_of sc_beat_of (fun _ _ _ _ _ _ us hl => match us, hl with | [_, _, _], _ => rfl) fun f cdv A outer s H E hr =>
    dss_one (ds_ret (de_callC (c_turned T) (hr.mono (by decide)) (by rfl) (takes_of rfl rfl rfl rfl) (da_cons (de_var (pv 1)) (da_cons (de_ix (dk_var (pv 0)) ((de_int).k)) (da_cons (de_callC (c_counted T) (hr.mono (by decide)) (by rfl) (takes_of rfl rfl rfl rfl) (da_cons (de_var (pv 1)) (da_cons (de_ix (dk_var (pv 0)) ((de_int).k)) (da_cons (de_ix (dk_var (pv 0)) ((de_int).k)) (da_cons (de_var (pv 2)) (da_nil)))))) (da_nil))))))
theorem sc_Shelf_bars : FnScope n_Shelf_bars ["self"] (defScope s_Shelf_bars) := ⟨rfl, rfl, rfl, by decide +kernel, rfl, by decide +kernel, by decide +kernel⟩
theorem c_Shelf_bars (T : GT K mg t w) : MCal P w K mg base 1 "Shelf" "bars" 1 t f_Shelf_bars :=
  MCal.of (k := 0) T.mf_Shelf T.mi_Shelf_bars sc_Shelf_bars (fun _ _ _ _ _ _ us hl => match us, hl with | [_], _ => rfl) fun f cdv A outer s H E hr =>
    dss_one (ds_ret (de_tuple (by rfl) T.z_tuple ((de_lc [("place", 1)] rfl sc_Shelf_bars.nd (di_range (by rfl) T.z_range (da_cons (de_sub ((de_len (by rfl) T.z_len ((de_fld T.mf_Shelf.s T.na_Shelf_row (pv 0)).k)).k) ((de_int).k)) (da_nil))) (blkOk_by (N := n_Shelf_bars) (sc := defScope s_Shelf_bars) (by decide +kernel)) (fun _ _ _ _ _ => dg_name (i := 1) sc_Shelf_bars.nd rfl (by first | exact Or.inl rfl | exact Or.inr rfl)) (fun _ _ _ _ _ => dts_one (dt_val (de_ixF T.mf_Shelf.s T.na_Shelf_walls (pv 0) (dq_var (pv 1))))) (fun _ _ _ _ _ => de_var (pv 1))).k)))
theorem sc_Shelf_tick : FnScope n_Shelf_tick ["self"] (defScope s_Shelf_tick) := ⟨rfl, rfl, rfl, by decide +kernel, rfl, by decide +kernel, by decide +kernel⟩
theorem c_Shelf_tick (T : GT K mg t w) : MCal P w K mg base 4 "Shelf" "tick" 1 t f_Shelf_tick :=
  MCal.of (k := 3) T.mf_Shelf T.mi_Shelf_tick sc_Shelf_tick (fun _ _ _ _ _ _ us hl => match us, hl with | [_], _ => rfl) fun f cdv A outer s H E hr =>
    dss_cons (ds_set (i := 1) sc_Shelf_tick.nd rfl (by first | exact Or.inl rfl | exact Or.inr rfl) (dc_val (de_fld T.mf_Shelf.s T.na_Shelf_row (pv 0)))) (dss_cons (ds_setF2 T.mf_Shelf.s rfl T.na_Shelf_row T.na_Shelf_counts (pv 0) (pv 0) (de_callC (c_beat_of T) (hr.mono (by decide)) (by rfl) (takes_of rfl rfl rfl rfl) (da_cons (de_tup (da_cons (de_var (pv 1)) (da_cons (de_meth0 (c_Shelf_bars T) (hr.mono (by decide)) (takes_of rfl rfl rfl rfl) (pv 0)) (da_cons (de_fld T.mf_Shelf.s T.na_Shelf_rules (pv 0)) (da_nil))))) (da_cons (de_var (pv 1)) (da_cons (de_fld T.mf_Shelf.s T.na_Shelf_counts (pv 0)) (da_nil)))))) (dss_cons (ds_appF T.mf_Shelf.s T.na_Shelf_notes (pv 0) (dq_tup (dqs_cons (dq_gstrE [116, 105, 99, 107] (by rfl) T.g_BEAT) (dqs_nil)))) (dss_one (ds_ret (de_lc [("place", 2)] rfl sc_Shelf_tick.nd (di_range (by rfl) T.z_range (da_cons (de_len (by rfl) T.z_len (dk_var (pv 1))) (da_nil))) (blkOk_by (N := n_Shelf_tick) (sc := defScope s_Shelf_tick) (by decide +kernel)) (fun _ _ _ _ _ => dg_name (i := 2) sc_Shelf_tick.nd rfl (by first | exact Or.inl rfl | exact Or.inr rfl)) (fun _ _ _ _ _ => dts_one (dt_ne hr.units ((de_ix ((de_fld T.mf_Shelf.s T.na_Shelf_row (pv 0)).k) (dk_var (pv 2))).k) ((de_ix (dk_var (pv 1)) (dk_var (pv 2))).k))) (fun _ _ _ _ _ => de_var (pv 2)))))))
theorem sc_Shelf_world : FnScope n_Shelf_world ["self"] (defScope s_Shelf_world) := ⟨rfl, rfl, rfl, by decide +kernel, rfl, by decide +kernel, by decide +kernel⟩
theorem c_Shelf_world (T : GT K mg t w) : MCal P w K mg base 3 "Shelf" "world" 1 t f_Shelf_world :=
  MCal.of (k := 2) T.mf_Shelf T.mi_Shelf_world sc_Shelf_world (fun _ _ _ _ _ _ us hl => match us, hl with | [_], _ => rfl) fun f cdv A outer s H E hr =>
    dss_one (ds_ret (de_tup (da_cons (de_fld T.mf_Shelf.s T.na_Shelf_row (pv 0)) (da_cons (de_meth0 (c_Shelf_bars T) (hr.mono (by decide)) (takes_of rfl rfl rfl rfl) (pv 0)) (da_cons (de_fld T.mf_Shelf.s T.na_Shelf_rules (pv 0)) (da_nil))))))
theorem sc_Shelf_take : FnScope n_Shelf_take ["self", "place"] (defScope s_Shelf_take) := ⟨rfl, rfl, rfl, by decide +kernel, rfl, by decide +kernel, by decide +kernel⟩
theorem c_Shelf_take (T : GT K mg t w) : MCal P w K mg base 3 "Shelf" "take" 2 t f_Shelf_take :=
  MCal.of (k := 2) T.mf_Shelf T.mi_Shelf_take sc_Shelf_take (fun _ _ _ _ _ _ us hl => match us, hl with | [_, _], _ => rfl) fun f cdv A outer s H E hr =>
    dss_cons (ds_expr (de_meth (c_Shelf_need_place T) (hr.mono (by decide)) (takes_of rfl rfl rfl rfl) (pv 0) (da_cons (de_var (pv 1)) (da_cons (de_len (by rfl) T.z_len ((de_fld T.mf_Shelf.s T.na_Shelf_row (pv 0)).k)) (da_nil))))) (dss_cons (ds_set (i := 2) sc_Shelf_take.nd rfl (by first | exact Or.inl rfl | exact Or.inr rfl) (dc_val (de_ix ((de_fld T.mf_Shelf.s T.na_Shelf_row (pv 0)).k) (dk_var (pv 1))))) (dss_cons (ds_setF T.mf_Shelf.s T.na_Shelf_row (pv 0) (dc_val (de_add ((de_sl ((de_fld T.mf_Shelf.s T.na_Shelf_row (pv 0)).k) (do_none) (do_some (dk_var (pv 1)))).k) ((de_sl ((de_fld T.mf_Shelf.s T.na_Shelf_row (pv 0)).k) (do_some ((de_add (dk_var (pv 1)) ((de_int).k)).k)) (do_none)).k)))) (dss_cons (ds_setF T.mf_Shelf.s T.na_Shelf_counts (pv 0) (dc_val (de_add ((de_sl ((de_fld T.mf_Shelf.s T.na_Shelf_counts (pv 0)).k) (do_none) (do_some (dk_var (pv 1)))).k) ((de_sl ((de_fld T.mf_Shelf.s T.na_Shelf_counts (pv 0)).k) (do_some ((de_add (dk_var (pv 1)) ((de_int).k)).k)) (do_none)).k)))) (dss_cons (ds_setF T.mf_Shelf.s T.na_Shelf_walls (pv 0) (dc_cat ((de_slF T.mf_Shelf.s T.na_Shelf_walls (pv 0) (dqo_none) (dqo_some (dq_var (pv 1)))).k) ((de_slF T.mf_Shelf.s T.na_Shelf_walls (pv 0) (dqo_some (dq_add (k := 1) (dq_var (pv 1)) pe_int)) (dqo_none)).k))) (dss_cons (ds_appF T.mf_Shelf.s T.na_Shelf_notes (pv 0) (dq_tup (dqs_cons (dq_gstrE [116, 97, 107, 101] (by rfl) T.g_TAKE) (dqs_cons (dq_var (pv 1)) (dqs_nil))))) (dss_one (ds_ret (de_var (pv 2)))))))))
theorem sc_Shelf_unbar : FnScope n_Shelf_unbar ["self", "place"] (defScope s_Shelf_unbar) := ⟨rfl, rfl, rfl, by decide +kernel, rfl, by decide +kernel, by decide +kernel⟩
theorem c_Shelf_unbar (T : GT K mg t w) : MCal P w K mg base 3 "Shelf" "unbar" 2 t f_Shelf_unbar :=
  MCal.of (k := 2) T.mf_Shelf T.mi_Shelf_unbar sc_Shelf_unbar (fun _ _ _ _ _ _ us hl => match us, hl with | [_, _], _ => rfl) fun f cdv A outer s H E hr =>
    dss_cons (ds_expr (de_meth (c_Shelf_need_place T) (hr.mono (by decide)) (takes_of rfl rfl rfl rfl) (pv 0) (da_cons (de_var (pv 1)) (da_cons (de_len (by rfl) T.z_len ((de_fld T.mf_Shelf.s T.na_Shelf_row (pv 0)).k)) (da_nil))))) (dss_cons (ds_if (dt_not (dt_val (de_ixF T.mf_Shelf.s T.na_Shelf_walls (pv 0) (dq_var (pv 1))))) (dss_one (ds_never)) (dss_nil)) (dss_cons (ds_putF T.mf_Shelf.s T.na_Shelf_walls (pv 0) (dq_var (pv 1)) (dq_bl)) (dss_one (ds_appF T.mf_Shelf.s T.na_Shelf_notes (pv 0) (dq_tup (dqs_cons (dq_gstrE [117, 110, 98, 97, 114] (by rfl) T.g_OPEN) (dqs_cons (dq_var (pv 1)) (dqs_nil))))))))
theorem sc_do : FnScope n_do ["shelf", "deed"] (defScope s_do) := ⟨rfl, rfl, rfl, by decide +kernel, rfl, by decide +kernel, by decide +kernel⟩
theorem c_do (T : GT K mg t w) : Cal P w K mg base 6 "do" 2 t f_do :=
  Cal.of (k := 5) T.d_do sc_do (fun _ _ _ _ _ _ us hl => match us, hl with | [_, _], _ => rfl) fun f cdv A outer s H E hr =>
    dss_cons (ds_star (i := 2) (j := 3) rfl sc_do.nd rfl (by first | exact Or.inl rfl | exact Or.inr rfl) rfl (by first | exact Or.inl rfl | exact Or.inr rfl) (de_var (pv 1))) (dss_one (ds_if (dt_eq hr.units (dk_var (pv 2)) ((de_gstrE [112, 117, 116] (by rfl) T.g_PUT).k)) (dss_one (ds_expr (de_meth (c_Shelf_put T) (hr.mono (by decide)) (takes_of rfl rfl rfl rfl) (pv 0) (da_cons (de_ix (dk_var (pv 3)) ((de_int).k)) (da_cons (de_ix (dk_var (pv 3)) ((de_int).k)) (da_nil)))))) (dss_one (ds_if (dt_eq hr.units (dk_var (pv 2)) ((de_gstrE [116, 97, 107, 101] (by rfl) T.g_TAKE).k)) (dss_one (ds_expr (de_meth (c_Shelf_take T) (hr.mono (by decide)) (takes_of rfl rfl rfl rfl) (pv 0) (da_cons (de_ix (dk_var (pv 3)) ((de_int).k)) (da_nil))))) (dss_one (ds_if (dt_eq hr.units (dk_var (pv 2)) ((de_gstrE [98, 97, 114] (by rfl) T.g_BAR).k)) (dss_one (ds_expr (de_meth (c_Shelf_bar T) (hr.mono (by decide)) (takes_of rfl rfl rfl rfl) (pv 0) (da_cons (de_ix (dk_var (pv 3)) ((de_int).k)) (da_nil))))) (dss_one (ds_if (dt_eq hr.units (dk_var (pv 2)) ((de_gstrE [117, 110, 98, 97, 114] (by rfl) T.g_OPEN).k)) (dss_one (ds_expr (de_meth (c_Shelf_unbar T) (hr.mono (by decide)) (takes_of rfl rfl rfl rfl) (pv 0) (da_cons (de_ix (dk_var (pv 3)) ((de_int).k)) (da_nil))))) (dss_one (ds_expr (de_meth0 (c_Shelf_tick T) (hr.mono (by decide)) (takes_of rfl rfl rfl rfl) (pv 0))))))))))))
theorem sc_again : FnScope n_again ["rules", "deeds"] (defScope s_again) := ⟨rfl, rfl, rfl, by decide +kernel, rfl, by decide +kernel, by decide +kernel⟩
theorem c_again (T : GT K mg t w) : Cal P w K mg base 7 "again" 2 t f_again :=
  Cal.of (k := 6) T.d_again sc_again (fun _ _ _ _ _ _ us hl => match us, hl with | [_, _], _ => rfl) fun f cdv A outer s H E hr =>
    dss_cons (ds_set (i := 2) sc_again.nd rfl (by first | exact Or.inl rfl | exact Or.inr rfl) (dc_val (de_make (c_Shelf___init__ T) (hr.mono (by decide)) (takes_of rfl rfl rfl rfl) (by rfl) (da_cons (de_var (pv 0)) (da_nil))))) (dss_cons (ds_for (passes_of rfl) rfl (di_en (by rfl) T.z_enumerate (da_cons (de_var (pv 1)) (da_nil))) (dg_tup rfl (dgs_cons (dg_name (i := 3) sc_again.nd rfl (by first | exact Or.inl rfl | exact Or.inr rfl)) (dgs_cons (dg_name (i := 4) sc_again.nd rfl (by first | exact Or.inl rfl | exact Or.inr rfl)) (dgs_nil))) (tk_cons (tk_cons (tk_nil)))) (dss_cons (ds_if (dt_w (dw_or (dt_eq hr.units ((de_len (by rfl) T.z_len (dk_var (pv 4))).k) ((de_int).k)) (dw_or1 (dt_ne hr.units ((de_tabGet T.kt_SIZES (by rfl) (de_ix (dk_var (pv 4)) ((de_int).k))).k) ((de_len (by rfl) T.z_len (dk_var (pv 4))).k))))) (dss_one (ds_never)) (dss_nil)) (dss_cons (ds_try0 (dss_one (ds_expr (de_callC (c_do T) (hr.mono (by decide)) (by rfl) takes0 (da_cons (de_var (pv 2)) (da_cons (de_var (pv 4)) (da_nil))))))) (dss_forget 3 (dss_forget 4 (dss_nil)))))) (dss_one (ds_ret (de_var (pv 2)))))
theorem sc_need_row : FnScope n_need_row ["row"] (defScope s_need_row) := ⟨rfl, rfl, rfl, by decide +kernel, rfl, by decide +kernel, by decide +kernel⟩
theorem c_need_row (T : GT K mg t w) : Cal P w K mg base 1 "need_row" 1 t f_need_row :=
  Cal.of (k := 0) T.d_need_row sc_need_row (fun _ _ _ _ _ _ us hl => match us, hl with | [_], _ => rfl) fun f cdv A outer s H E hr =>
    dss_cons (ds_for (passes_of rfl) rfl (di_en (by rfl) T.z_enumerate (da_cons (de_var (pv 0)) (da_nil))) (dg_tup rfl (dgs_cons (dg_name (i := 1) sc_need_row.nd rfl (by first | exact Or.inl rfl | exact Or.inr rfl)) (dgs_cons (dg_name (i := 2) sc_need_row.nd rfl (by first | exact Or.inl rfl | exact Or.inr rfl)) (dgs_nil))) (tk_cons (tk_cons (tk_nil)))) (dss_cons (ds_if (dt_w (dw_or (dt_eq hr.units (dk_var (pv 1)) ((de_gintE (by rfl) T.g_MOST_JARS).k)) (dw_or1 (dt_nin (dk_var (pv 2)) ((de_gstrE [97, 98, 99, 100, 101] (by rfl) T.g_KINDS).k))))) (dss_one (ds_never)) (dss_nil)) (dss_forget 1 (dss_forget 2 (dss_nil))))) (dss_one (ds_if (dt_eq hr.units (dk_var (pv 0)) ((de_str []).k)) (dss_one (ds_never)) (dss_nil)))
theorem sc_need_bars : FnScope n_need_bars ["row", "bars"] (defScope s_need_bars) := ⟨rfl, rfl, rfl, by decide +kernel, rfl, by decide +kernel, by decide +kernel⟩
theorem c_need_bars (T : GT K mg t w) : Cal P w K mg base 1 "need_bars" 2 t f_need_bars :=
  Cal.of (k := 0) T.d_need_bars sc_need_bars (fun _ _ _ _ _ _ us hl => match us, hl with | [_, _], _ => rfl) fun f cdv A outer s H E hr =>
    dss_one (ds_for (passes_of rfl) rfl (di_en (by rfl) T.z_enumerate (da_cons (de_var (pv 1)) (da_nil))) (dg_tup rfl (dgs_cons (dg_name (i := 2) sc_need_bars.nd rfl (by first | exact Or.inl rfl | exact Or.inr rfl)) (dgs_cons (dg_name (i := 3) sc_need_bars.nd rfl (by first | exact Or.inl rfl | exact Or.inr rfl)) (dgs_nil))) (tk_cons (tk_cons (tk_nil)))) (dss_cons (ds_if (dt_w (dw_or (dt_not (dt_lelt ((de_int).k) (dk_var (pv 3)) ((de_sub ((de_len (by rfl) T.z_len (dk_var (pv 0))).k) ((de_int).k)).k))) (dw_or1 (dt_w (dw_and (dt_gt (dk_var (pv 2)) ((de_int).k)) (dw_and1 (dt_le (dk_var (pv 3)) ((de_ix (dk_var (pv 1)) ((de_sub (dk_var (pv 2)) ((de_int).k)).k)).k)))))))) (dss_one (ds_never)) (dss_nil)) (dss_forget 2 (dss_forget 3 (dss_nil)))))
theorem sc_need_world : FnScope n_need_world ["world"] (defScope s_need_world) := ⟨rfl, rfl, rfl, by decide +kernel, rfl, by decide +kernel, by decide +kernel⟩
theorem c_need_world (T : GT K mg t w) : Cal P w K mg base 4 "need_world" 1 t f_need_world :=
  Cal.of (k := 3) T.d_need_world sc_need_world (fun _ _ _ _ _ _ us hl => match us, hl with | [_], _ => rfl) fun f cdv A outer s H E hr =>
    dss_cons (ds_asg (de_var (pv 0)) (dg_tup rfl (dgs_cons (dg_name (i := 1) sc_need_world.nd rfl (by first | exact Or.inl rfl | exact Or.inr rfl)) (dgs_cons (dg_name (i := 2) sc_need_world.nd rfl (by first | exact Or.inl rfl | exact Or.inr rfl)) (dgs_cons (dg_name (i := 3) sc_need_world.nd rfl (by first | exact Or.inl rfl | exact Or.inr rfl)) (dgs_nil)))) (tk_cons (tk_cons (tk_cons (tk_nil)))))) (dss_cons (ds_expr (de_callC (c_need_row T) (hr.mono (by decide)) (by rfl) (takes_of rfl rfl rfl rfl) (da_cons (de_var (pv 1)) (da_nil)))) (dss_cons (ds_expr (de_callC (c_need_bars T) (hr.mono (by decide)) (by rfl) (takes_of rfl rfl rfl rfl) (da_cons (de_var (pv 1)) (da_cons (de_var (pv 2)) (da_nil))))) (dss_one (ds_expr (de_callC (c_need_rules T) (hr.mono (by decide)) (by rfl) (takes_of rfl rfl rfl rfl) (da_cons (de_var (pv 3)) (da_nil)))))))
theorem sc_begun : FnScope n_begun ["row", "rules"] (defScope s_begun) := ⟨rfl, rfl, rfl, by decide +kernel, rfl, by decide +kernel, by decide +kernel⟩
theorem c_begun (T : GT K mg t w) : Cal P w K mg base 1 "begun" 2 t f_begun :=
  Cal.of (k := 0) T.d_begun sc_begun (fun _ _ _ _ _ _ us hl => match us, hl with | [_, _], _ => rfl) fun f cdv A outer s H E hr =>
    dss_one (ds_ret (de_tuple (by rfl) T.z_tuple ((de_lc [("kind", 2)] rfl sc_begun.nd (di_any (de_var (pv 0))) (blkOk_by (N := n_begun) (sc := defScope s_begun) (by decide +kernel)) (fun _ _ _ _ _ => dg_name (i := 2) sc_begun.nd rfl (by first | exact Or.inl rfl | exact Or.inr rfl)) (fun _ _ _ _ _ => dts_nil) (fun _ _ _ _ _ => de_mul ((de_tup (da_cons (de_int) (da_nil))).k) ((de_len (by rfl) T.z_len (dk_var (pv 1))).k))).k)))
theorem sc_beats : FnScope n_beats ["world", "many"] (defScope s_beats) := ⟨rfl, rfl, rfl, by decide +kernel, rfl, by decide +kernel, by decide +kernel⟩
theorem c_beats (T : GT K mg t w) : Cal P w K mg base 5 "beats" 2 t f_beats :=
  Cal.of (k := 4) T.d_beats sc_beats (fun _ _ _ _ _ _ us hl => match us, hl with | [_, _], _ => rfl) fun f cdv A outer s H E hr =>
    dss_cons (ds_expr (de_callC (c_need_world T) (hr.mono (by decide)) (by rfl) (takes_of rfl rfl rfl rfl) (da_cons (de_var (pv 0)) (da_nil)))) (dss_cons (ds_if (dt_not (dt_lele ((de_int).k) (dk_var (pv 1)) ((de_gintE (by rfl) T.g_MOST_NEAR).k))) (dss_one (ds_never)) (dss_nil)) (dss_cons (ds_par (i := 2) (j := 3) rfl sc_beats.nd rfl rfl (by decide) rfl rfl (dc_val (de_ix (dk_var (pv 0)) ((de_int).k))) (dc_val (de_callC (c_begun T) (hr.mono (by decide)) (by rfl) (takes_of rfl rfl rfl rfl) (da_cons (de_ix (dk_var (pv 0)) ((de_int).k)) (da_cons (de_ix (dk_var (pv 0)) ((de_int).k)) (da_nil))))) (by rfl)) (dss_cons (ds_set (i := 4) sc_beats.nd rfl (by first | exact Or.inl rfl | exact Or.inr rfl) (dc_own (da_nil))) (dss_cons (ds_for (passes_of rfl) rfl (di_range (by rfl) T.z_range (da_cons (de_var (pv 1)) (da_nil))) (dg_name (i := 5) sc_beats.nd rfl (by first | exact Or.inl rfl | exact Or.inr rfl)) (dss_cons (ds_appD (i := 4) (pv 4) (de_var (pv 2))) (dss_cons (ds_asg (de_callC (c_beat_of T) (hr.mono (by decide)) (by rfl) (takes_of rfl rfl rfl rfl) (da_cons (de_var (pv 0)) (da_cons (de_var (pv 2)) (da_cons (de_var (pv 3)) (da_nil))))) (dg_tup rfl (dgs_cons (dg_name (i := 2) sc_beats.nd rfl (by first | exact Or.inl rfl | exact Or.inr rfl)) (dgs_cons (dg_name (i := 3) sc_beats.nd rfl (by first | exact Or.inl rfl | exact Or.inr rfl)) (dgs_nil))) (tk_cons (tk_cons (tk_nil))))) (dss_forget 5 (dss_nil))))) (dss_freeze 4 (dss_one (ds_ret (de_var (pv 4)))))))))
def n__law_next : List Str := ["_law_h", "_law_many", "_law_cell"]
theorem sc__law_next : FnScope n__law_next ["_law_h", "_law_many"] (defScope s__law_next) := ⟨rfl, rfl, rfl, by decide +kernel, rfl, by decide +kernel, by decide +kernel⟩
theorem c__law_next (T : GT K mg t w) : Cal P w K mg base 1 "_law_next" 2 t f__law_next :=
  Cal.raw (k := 0) (tt := t_next K) T.d__law_next sc__law_next (fun _ _ _ _ _ _ us hl => match us, hl with | [_, _], _ => rfl) (fun f cdv A outer s H E hr =>
    pss_cons (ps_set (i := 2) sc__law_next.nd rfl (Or.inl rfl) (pe_ix ix_list (pe_op op_cat (pe_ix ix_list (pv 0) pe_int (fun _ _ => rfl)) (pe_lst (pa_cons pe_int pa_nil))) (pe_op op_mod (pe_ix ix_list (pv 0) pe_int (fun _ _ => rfl)) (pe_callB (call_max2 rfl) (by rfl) T.z_max PyProof.Rows.boot_max (pa_cons pe_int (pa_cons (pe_callB call_len (by rfl) T.z_len PySem.boot_len (pa_cons (pe_ix ix_list (pv 0) pe_int (fun _ _ => rfl)) pa_nil)) pa_nil)))) (fun _ _ => rfl)))
    (pss_cons (ps_if (pt_cmpR op_ge (pv 2) (pe_op op_pow pe_int pe_int) (nomark _)) (pss_cons (ps_asg (pe_op op_fdivW (pv 2) (pv 1)) (pg_sub (pe_ix ix_list (pv 0) pe_int (fun _ _ => rfl)) (pe_op op_mod (pe_ix ix_list (pv 0) pe_int (fun _ _ => rfl)) (pe_callB call_len (by rfl) T.z_len PySem.boot_len (pa_cons (pe_ix ix_list (pv 0) pe_int (fun _ _ => rfl)) pa_nil))) set_list)) (pss_one (ps_ret (pe_op op_mod (pv 2) (pv 1))))) pss_nil)
    (pss_cons (ps_asg (pe_op op_mod (pe_op op_add (pe_op op_add (pe_op op_mul (pe_ix ix_list (pv 0) pe_int (fun _ _ => rfl)) pe_int) (pe_op op_mul (pv 2) pe_int)) pe_int) pe_int) (pg_sub (pv 0) pe_int set_list))
    (pss_cons (ps_asg (pe_op op_add (pe_ix ix_list (pv 0) pe_int (fun _ _ => rfl)) pe_int) (pg_sub (pv 0) pe_int set_list))
    (pss_one (ps_ret (pe_op op_mod (pe_op op_fdivW (pe_ix ix_list (pv 0) pe_int (fun _ _ => rfl)) pe_int) (pv 1)))))))) fun vs H Q E h => pure_next _ rfl vs H Q E h
theorem sc__law_alike : FnScope n__law_alike ["_law_found", "_law_due"] (defScope s__law_alike) := ⟨rfl, rfl, rfl, by decide +kernel, rfl, by decide +kernel, by decide +kernel⟩
theorem c__law_alike (T : GT K mg t w) : Cal P w K mg base 8 "_law_alike" 2 t f__law_alike :=
  Cal.recur (j := 0) (Cal.mono (Cal.none T.d__law_alike (ps := ["_law_found", "_law_due"]) (fun _ _ _ _ _ _ us hl => match us, hl with | [_, _], _ => rfl)) (Nat.zero_le _)) (fun k φ hk C0 => Cal.of T.d__law_alike sc__law_alike (fun _ _ _ _ _ _ us hl => match us, hl with | [_, _], _ => rfl) fun f cdv A outer s H E hr0 => by
    have hr := hr0.mono hk
    exact dss_cons (ds_if (dt_val (de_isi (by rfl) T.z_isinstance (dk_var (pv 1)) ((de_tup (da_cons (de_ty (by rfl) T.z_tuple PyProof.Rows.boot_tuple) (da_cons (de_ty (by rfl) T.z_list PyProof.Rows.boot_list) (da_nil)))).k))) (dss_cons (ds_if (dt_w (dw_or (dt_not (dt_val (de_isi (by rfl) T.z_isinstance (dk_var (pv 0)) ((de_tup (da_cons (de_ty (by rfl) T.z_tuple PyProof.Rows.boot_tuple) (da_cons (de_ty (by rfl) T.z_list PyProof.Rows.boot_list) (da_nil)))).k)))) (dw_or1 (dt_ne hr.units ((de_isi (by rfl) T.z_isinstance (dk_var (pv 0)) ((de_ty (by rfl) T.z_list PyProof.Rows.boot_list).k)).k) ((de_isi (by rfl) T.z_isinstance (dk_var (pv 1)) ((de_ty (by rfl) T.z_list PyProof.Rows.boot_list).k)).k))))) (dss_one (ds_ret (de_bl))) (dss_nil)) (dss_cons (ds_if (dt_ne hr.units ((de_len (by rfl) T.z_len (dk_var (pv 0))).k) ((de_len (by rfl) T.z_len (dk_var (pv 1))).k)) (dss_one (ds_ret (de_bl))) (dss_nil)) (dss_one (ds_ret (de_eq hr.units ((de_lc [("_law_k", 2)] rfl sc__law_alike.nd (di_range (by rfl) T.z_range (da_cons (de_len (by rfl) T.z_len (dk_var (pv 1))) (da_nil))) (blkOk_by (N := n__law_alike) (sc := defScope s__law_alike) (by decide +kernel)) (fun _ _ _ _ _ => dg_name (i := 2) sc__law_alike.nd rfl (by first | exact Or.inl rfl | exact Or.inr rfl)) (fun _ _ _ _ _ => dts_one (dt_not (dt_val (de_callC C0 hr0 (by rfl) takes0 (da_cons (de_ix (dk_var (pv 0)) (dk_var (pv 2))) (da_cons (de_ix (dk_var (pv 1)) (dk_var (pv 2))) (da_nil))))))) (fun _ _ _ _ _ => de_var (pv 2))).k) ((de_lst (da_nil)).k)))))) (dss_nil)) (dss_cons (ds_if (dt_w (dw_or (dt_is (dk_var (pv 1)) ((de_non).k)) (dw_or1 (dt_val (de_isi (by rfl) T.z_isinstance (dk_var (pv 1)) ((de_ty (by rfl) T.z_str PyProof.Rows.boot_str).k)))))) (dss_one (ds_ret (de_and (de_eq hr.units (dk_var (pv 0)) (dk_var (pv 1))) (de_one (de_eq hr.units ((de_isi (by rfl) T.z_isinstance (dk_var (pv 0)) ((de_ty (by rfl) T.z_str PyProof.Rows.boot_str).k)).k) ((de_isi (by rfl) T.z_isinstance (dk_var (pv 1)) ((de_ty (by rfl) T.z_str PyProof.Rows.boot_str).k)).k)))))) (dss_nil)) (dss_one (ds_ret (de_and (de_isi (by rfl) T.z_isinstance (dk_var (pv 0)) ((de_ty (by rfl) T.z_int PyProof.Rows.boot_int).k)) (de_and (de_eq hr.units ((de_isi (by rfl) T.z_isinstance (dk_var (pv 0)) ((de_ty (by rfl) T.z_bool PyProof.Rows.boot_bool).k)).k) ((de_isi (by rfl) T.z_isinstance (dk_var (pv 1)) ((de_ty (by rfl) T.z_bool PyProof.Rows.boot_bool).k)).k)) (de_one (de_eq hr.units (dk_var (pv 0)) (dk_var (pv 1)))))))))) 8
theorem sc__law_rules : FnScope n__law_rules ["_law_h", "_law_kinds", "_law_many"] (defScope s__law_rules) := ⟨rfl, rfl, rfl, by decide +kernel, rfl, by decide +kernel, by decide +kernel⟩
theorem c__law_rules (T : GT K mg t w) : Cal P w K mg base 2 "_law_rules" 3 t f__law_rules :=
  Cal.of (k := 1) T.d__law_rules sc__law_rules (fun _ _ _ _ _ _ us hl => match us, hl with | [_, _, _], _ => rfl) fun f cdv A outer s H E hr =>
    dss_cons (ds_set (i := 3) sc__law_rules.nd rfl (by first | exact Or.inl rfl | exact Or.inr rfl) (dc_own (da_nil))) (dss_cons (ds_for (passes_of rfl) rfl (di_range (by rfl) T.z_range (da_cons (de_callC (c__law_next T) (hr.mono (by decide)) (by rfl) (takes_of rfl rfl rfl rfl) (da_cons (de_var (pv 0)) (da_cons (de_add (dk_var (pv 2)) ((de_int).k)) (da_nil)))) (da_nil))) (dg_name (i := 4) sc__law_rules.nd rfl (by first | exact Or.inl rfl | exact Or.inr rfl)) (dss_strike (L := [97, 98, 99, 100, 101]) (i := 5) (j := 6) (l := 7) (by decide +kernel) (by decide +kernel) (by decide +kernel) (by decide) rfl sc__law_rules.nd rfl rfl rfl (by decide) rfl rfl rfl (fun _ _ => rfl) (fun _ _ => rfl) ((de_callC (c__law_next T) (hr.mono (by decide)) (by rfl) (takes_of rfl rfl rfl rfl) (da_cons (de_var (pv 0)) (da_cons (de_var (pv 1)) (da_nil)))).k) (de_ix ((de_str [97, 98, 99, 100, 101]).k) ((de_callC (c__law_next T) (hr.mono (by decide)) (by rfl) (takes_of rfl rfl rfl rfl) (da_cons (de_var (pv 0)) (da_cons (de_var (pv 1)) (da_nil)))).k)) ((de_callC (c__law_next T) (hr.mono (by decide)) (by rfl) (takes_of rfl rfl rfl rfl) (da_cons (de_var (pv 0)) (da_cons (de_max rfl (by rfl) T.z_max ((de_int).k) ((de_sub (dk_var (pv 1)) ((de_int).k)).k)) (da_nil)))).k) (dss_cons (ds_appD (i := 3) (pv 3) (de_tup (da_cons (de_var (pv 5)) (da_cons (de_var (pv 6)) (da_cons (de_add ((de_int).k) ((de_div ((de_callC (c__law_next T) (hr.mono (by decide)) (by rfl) (takes_of rfl rfl rfl rfl) (da_cons (de_var (pv 0)) (da_cons (de_int) (da_nil)))).k) ((de_int).k)).k)) (da_cons (de_add ((de_int).k) ((de_mul ((de_callC (c__law_next T) (hr.mono (by decide)) (by rfl) (takes_of rfl rfl rfl rfl) (da_cons (de_var (pv 0)) (da_cons (de_int) (da_nil)))).k) ((de_callC (c__law_next T) (hr.mono (by decide)) (by rfl) (takes_of rfl rfl rfl rfl) (da_cons (de_var (pv 0)) (da_cons (de_int) (da_nil)))).k)).k)) (da_cons (de_var (pv 7)) (da_nil)))))))) (dss_forget 4 (dss_forget 5 (dss_forget 6 (dss_forget 7 (dss_nil)))))) (by rfl))) (dss_one (ds_ret (de_tuple (by rfl) T.z_tuple (dk_var (pv 3))))))
theorem sc__law_world : FnScope n__law_world ["_law_h", "_law_jars", "_law_kinds", "_law_many"] (defScope s__law_world) := ⟨rfl, rfl, rfl, by decide +kernel, rfl, by decide +kernel, by decide +kernel⟩
theorem c__law_world (T : GT K mg t w) : Cal P w K mg base 3 "_law_world" 4 t f__law_world :=
  Cal.of (k := 2) T.d__law_world sc__law_world (fun _ _ _ _ _ _ us hl => match us, hl with | [_, _, _, _], _ => rfl) fun f cdv A outer s H E hr =>
    dss_cons (ds_set (i := 4) sc__law_world.nd rfl (by first | exact Or.inl rfl | exact Or.inr rfl) (dc_val (de_join ((de_str []).k) ((de_lc [("_law_k", 5)] rfl sc__law_world.nd (di_range (by rfl) T.z_range (da_cons (de_add ((de_int).k) ((de_callC (c__law_next T) (hr.mono (by decide)) (by rfl) (takes_of rfl rfl rfl rfl) (da_cons (de_var (pv 0)) (da_cons (de_var (pv 1)) (da_nil)))).k)) (da_nil))) (blkOk_by (N := n__law_world) (sc := defScope s__law_world) (by decide +kernel)) (fun _ _ _ _ _ => dg_name (i := 5) sc__law_world.nd rfl (by first | exact Or.inl rfl | exact Or.inr rfl)) (fun _ _ _ _ _ => dts_nil) (fun _ _ _ _ _ => de_ix ((de_str [97, 98, 99, 100, 101]).k) ((de_callC (c__law_next T) (hr.mono (by decide)) (by rfl) takes0 (da_cons (de_var (pv 0)) (da_cons (de_var (pv 2)) (da_nil)))).k))).k)))) (dss_cons (ds_set (i := 6) sc__law_world.nd rfl (by first | exact Or.inl rfl | exact Or.inr rfl) (dc_val (de_tuple (by rfl) T.z_tuple ((de_lc [("_law_gap", 7)] rfl sc__law_world.nd (di_range (by rfl) T.z_range (da_cons (de_sub ((de_len (by rfl) T.z_len (dk_var (pv 4))).k) ((de_int).k)) (da_nil))) (blkOk_by (N := n__law_world) (sc := defScope s__law_world) (by decide +kernel)) (fun _ _ _ _ _ => dg_name (i := 7) sc__law_world.nd rfl (by first | exact Or.inl rfl | exact Or.inr rfl)) (fun _ _ _ _ _ => dts_one (dt_eq hr.units ((de_callC (c__law_next T) (hr.mono (by decide)) (by rfl) takes0 (da_cons (de_var (pv 0)) (da_cons (de_int) (da_nil)))).k) ((de_int).k))) (fun _ _ _ _ _ => de_var (pv 7))).k)))) (dss_one (ds_ret (de_tup (da_cons (de_var (pv 4)) (da_cons (de_var (pv 6)) (da_cons (de_callC (c__law_rules T) (hr.mono (by decide)) (by rfl) (takes_of rfl rfl rfl rfl) (da_cons (de_var (pv 0)) (da_cons (de_var (pv 2)) (da_cons (de_var (pv 3)) (da_nil))))) (da_nil))))))))
def n__law_mix : List Str := ["_law_script", "_law_seed", "_law_mixed", "_law_cell"]
theorem sc__law_mix : FnScope n__law_mix ["_law_script", "_law_seed"] (defScope s__law_mix) := ⟨rfl, rfl, rfl, by decide +kernel, rfl, by decide +kernel, by decide +kernel⟩
theorem c__law_mix (T : GT K mg t w) : MixOk P w K mg base 1 "_law_mix" :=
  MixOk.of (k := 0) T.d__law_mix sc__law_mix (fun _ _ _ _ _ _ us hl => match us, hl with | [_, _], _ => rfl) rfl rfl fun f cdv A outer s H E hr =>
    pss_cons (ps_set (i := 2) sc__law_mix.nd rfl (Or.inl rfl) (pv 1)) (pss_cons (ps_for (passes_of rfl) rfl (pi_list (pv 0)) (pg_name (i := 3) sc__law_mix.nd rfl (Or.inl rfl)) (pss_one (ps_set (i := 2) sc__law_mix.nd rfl (Or.inl rfl) (pe_op op_mod (pe_op op_add (pe_op op_add (pe_op op_mul (pv 2) pe_int) (pe_op op_mod (pv 3) pe_int)) pe_int) pe_int))))
    (pss_one (ps_ret (pe_lst (pa_cons (pv 2) (pa_cons (pe_callTy call_list_of (by rfl) T.z_list PyProof.Rows.boot_list (pa_cons (pv 0) pa_nil)) (pa_cons pe_int pa_nil)))))))
theorem sc_law : FnScope n_law ["_law_script"] (defScope s_law) := ⟨rfl, rfl, rfl, by decide +kernel, rfl, by decide +kernel, by decide +kernel⟩
theorem law_body (T : GT K mg t w) {f : Addr} (cdv : Value) (A : Around) (outer : List PySem.Env) (s : Shared) (H : Hp) (E : XK) (hr : Room 8 (A.deeper (envOfC "law" (defScope s_law) s.heap.objs.size f cdv))) : PSs (cxOf (L2.CX P w) P w K mg base n_law "law" (defScope s_law) f cdv A outer s H E) (defBody s_law) (tSeq (tAsg (tCallS (spMix K) (WE (t.wi E).W) (tCons (tVar 0) (tCons (tC (.int 61)) tNil))) (L2.gName 1)) (rdS (P, w, mg) (t.wi E) b_law)) :=
  pss_mix (c__law_mix T) (hr.mono (by decide)) (takes_of rfl rfl rfl rfl) (by rfl) sc_law.nd (pv 0) rfl (by first | exact Or.inl rfl | exact Or.inr rfl)
    (dss_cons (ds_for (passes_of rfl) rfl (di_range (by rfl) T.z_range (da_cons (de_int) (da_nil))) (dg_name (i := 2) sc_law.nd rfl (by first | exact Or.inl rfl | exact Or.inr rfl)) (dss_cons (ds_set (i := 3) sc_law.nd rfl (by first | exact Or.inl rfl | exact Or.inr rfl) (dc_val (de_callC (c__law_world T) (hr.mono (by decide)) (by rfl) (takes_of rfl rfl rfl rfl) (da_cons (de_var (pv 1)) (da_cons (de_int) (da_cons (de_int) (da_cons (de_int) (da_nil)))))))) (dss_cons (ds_asg (de_var (pv 3)) (dg_tup rfl (dgs_cons (dg_name (i := 4) sc_law.nd rfl (by first | exact Or.inl rfl | exact Or.inr rfl)) (dgs_cons (dg_name (i := 5) sc_law.nd rfl (by first | exact Or.inl rfl | exact Or.inr rfl)) (dgs_cons (dg_name (i := 6) sc_law.nd rfl (by first | exact Or.inl rfl | exact Or.inr rfl)) (dgs_nil)))) (tk_cons (tk_cons (tk_cons (tk_nil)))))) (dss_cons (ds_par (i := 7) (j := 8) rfl sc_law.nd rfl rfl (by decide) rfl rfl (dc_val (de_make (c_Shelf___init__ T) (hr.mono (by decide)) (takes_of rfl rfl rfl rfl) (by rfl) (da_cons (de_var (pv 6)) (da_nil)))) (dc_own (da_nil)) (by rfl)) (dss_cons (ds_set (i := 9) sc_law.nd rfl (by first | exact Or.inl rfl | exact Or.inr rfl) (dc_lstRg rfl (by rfl) T.z_list (by rfl) T.z_range (de_len (by rfl) T.z_len (dk_var (pv 4))))) (dss_cons (ds_while 100000 (passes_of rfl) (dt_ne hr.units (dk_var (pv 9)) ((de_lst (da_nil)).k)) (dss_cons (ds_pop (i := 10) (j := 9) sc_law.nd rfl (by first | exact Or.inl rfl | exact Or.inr rfl) (pv 9) (de_callC (c__law_next T) (hr.mono (by decide)) (by rfl) (takes_of rfl rfl rfl rfl) (da_cons (de_var (pv 1)) (da_cons (de_len (by rfl) T.z_len (dk_var (pv 9))) (da_nil))))) (dss_cons (ds_set (i := 11) sc_law.nd rfl (by first | exact Or.inl rfl | exact Or.inr rfl) (dc_val (de_len (by rfl) T.z_len ((de_lcO [("_law_other", 12)] rfl sc_law.nd (di_ownO (pv 8)) (blkOk_by (N := n_law) (sc := defScope s_law) (by decide +kernel)) (fun _ _ _ _ _ => dg_name (i := 12) sc_law.nd rfl (by first | exact Or.inl rfl | exact Or.inr rfl)) (fun _ _ _ _ _ => dts_one (dt_lt (dk_var (pv 12)) (dk_var (pv 10)))) (fun _ _ _ _ _ => de_var (pv 12))).k)))) (dss_cons (ds_expr (de_meth (c_Shelf_put T) (hr.mono (by decide)) (takes_of rfl rfl rfl rfl) (pv 7) (da_cons (de_var (pv 11)) (da_cons (de_ix (dk_var (pv 4)) (dk_var (pv 10))) (da_nil))))) (dss_cons (ds_appD (i := 8) (pv 8) (de_var (pv 10))) (dss_forget 10 (dss_forget 11 (dss_nil)))))))) (dss_cons (ds_for (passes_of rfl) rfl (di_any (de_var (pv 5))) (dg_name (i := 13) sc_law.nd rfl (by first | exact Or.inl rfl | exact Or.inr rfl)) (dss_cons (ds_expr (de_meth (c_Shelf_bar T) (hr.mono (by decide)) (takes_of rfl rfl rfl rfl) (pv 7) (da_cons (de_var (pv 13)) (da_nil)))) (dss_forget 13 (dss_nil)))) (dss_cons (ds_if (dt_not (dt_val (de_callC (c__law_alike T) (hr.mono (by decide)) (by rfl) (takes_of rfl rfl rfl rfl) (da_cons (de_meth0 (c_Shelf_world T) (hr.mono (by decide)) (takes_of rfl rfl rfl rfl) (pv 7)) (da_cons (de_var (pv 3)) (da_nil)))))) (dss_one (ds_ret (de_bl))) (dss_nil)) (dss_cons (ds_set (i := 14) sc_law.nd rfl (by first | exact Or.inl rfl | exact Or.inr rfl) (dc_val (de_callC (c_beats T) (hr.mono (by decide)) (by rfl) (takes_of rfl rfl rfl rfl) (da_cons (de_var (pv 3)) (da_cons (de_int) (da_nil)))))) (dss_cons (ds_for (passes_of rfl) rfl (di_range (by rfl) T.z_range (da_cons (de_int) (da_nil))) (dg_name (i := 15) sc_law.nd rfl (by first | exact Or.inl rfl | exact Or.inr rfl)) (dss_cons (ds_set (i := 16) sc_law.nd rfl (by first | exact Or.inl rfl | exact Or.inr rfl) (dc_val (de_meth0 (c_Shelf_tick T) (hr.mono (by decide)) (takes_of rfl rfl rfl rfl) (pv 7)))) (dss_cons (ds_if (dt_ne hr.units ((de_meth0 (c_Shelf_world T) (hr.mono (by decide)) (takes_of rfl rfl rfl rfl) (pv 7)).k) ((de_tup (da_cons (de_ix (dk_var (pv 14)) ((de_add (dk_var (pv 15)) ((de_int).k)).k)) (da_cons (de_var (pv 5)) (da_cons (de_var (pv 6)) (da_nil))))).k)) (dss_one (ds_ret (de_bl))) (dss_nil)) (dss_cons (ds_if (dt_not (dt_val (de_callC (c__law_alike T) (hr.mono (by decide)) (by rfl) (takes_of rfl rfl rfl rfl) (da_cons (de_var (pv 16)) (da_cons (de_lc [("_law_k", 17)] rfl sc_law.nd (di_range (by rfl) T.z_range (da_cons (de_len (by rfl) T.z_len (dk_var (pv 4))) (da_nil))) (blkOk_by (N := n_law) (sc := defScope s_law) (by decide +kernel)) (fun _ _ _ _ _ => dg_name (i := 17) sc_law.nd rfl (by first | exact Or.inl rfl | exact Or.inr rfl)) (fun _ _ _ _ _ => dts_one (dt_ne hr.units ((de_ix ((de_ix (dk_var (pv 14)) (dk_var (pv 15))).k) (dk_var (pv 17))).k) ((de_ix ((de_ix (dk_var (pv 14)) ((de_add (dk_var (pv 15)) ((de_int).k)).k)).k) (dk_var (pv 17))).k))) (fun _ _ _ _ _ => de_var (pv 17))) (da_nil)))))) (dss_one (ds_ret (de_bl))) (dss_nil)) (dss_cons (ds_set (i := 18) sc_law.nd rfl (by first | exact Or.inl rfl | exact Or.inr rfl) (dc_val (de_eq hr.units ((de_lc [("_law_kind", 19), ("_law_some", 20), ("_law_shut", 21)] rfl sc_law.nd (di_any (de_meth0 (c_Shelf_look T) (hr.mono (by decide)) (takes_of rfl rfl rfl rfl) (pv 7))) (blkOk_by (N := n_law) (sc := defScope s_law) (by decide +kernel)) (fun _ _ _ _ _ => dg_tup rfl (dgs_cons (dg_name (i := 19) sc_law.nd rfl (by first | exact Or.inl rfl | exact Or.inr rfl)) (dgs_cons (dg_name (i := 20) sc_law.nd rfl (by first | exact Or.inl rfl | exact Or.inr rfl)) (dgs_cons (dg_name (i := 21) sc_law.nd rfl (by first | exact Or.inl rfl | exact Or.inr rfl)) (dgs_nil)))) (tk_cons (tk_cons (tk_cons (tk_nil))))) (fun _ _ _ _ _ => dts_one (dt_ne hr.units ((de_lc [("_law_count", 22)] rfl sc_law.nd (di_any (de_var (pv 20))) (blkOk_by (N := n_law) (by first | decide +kernel | kernel_rfl)) (fun _ _ _ _ _ => dg_name (i := 22) sc_law.nd rfl (by first | exact Or.inl rfl | exact Or.inr rfl)) (fun _ _ _ _ _ => dts_one (dt_gt (dk_var (pv 22)) ((de_int).k))) (fun _ _ _ _ _ => de_var (pv 22))).k) ((de_lst (da_nil)).k))) (fun _ _ _ _ _ => de_var (pv 20))).k) ((de_lst (da_nil)).k)))) (dss_cons (ds_if (dt_w (dw_and (dt_val (de_var (pv 18))) (dw_and (dt_lt (dk_var (pv 15)) ((de_int).k)) (dw_and1 (dt_ne hr.units ((de_callC (c_beats T) (hr.mono (by decide)) (by rfl) (takes_of rfl rfl rfl rfl) (da_cons (de_meth0 (c_Shelf_world T) (hr.mono (by decide)) (takes_of rfl rfl rfl rfl) (pv 7)) (da_cons (de_int) (da_nil)))).k) ((de_sl (dk_var (pv 14)) (do_some ((de_add (dk_var (pv 15)) ((de_int).k)).k)) (do_some ((de_add (dk_var (pv 15)) ((de_int).k)).k))).k)))))) (dss_one (ds_ret (de_bl))) (dss_nil)) (dss_forget 15 (dss_forget 16 (dss_forget 18 (dss_nil)))))))))) (dss_cons (ds_if (dt_ne hr.units ((de_methX (c_Shelf_look T) (hr.mono (by decide)) (takes_of rfl rfl rfl rfl) (de_callC (c_again T) (hr.mono (by decide)) (by rfl) (takes_of rfl rfl rfl rfl) (da_cons (de_var (pv 6)) (da_cons (de_meth0 (c_Shelf_deeds T) (hr.mono (by decide)) (takes_of rfl rfl rfl rfl) (pv 7)) (da_nil))))).k) ((de_meth0 (c_Shelf_look T) (hr.mono (by decide)) (takes_of rfl rfl rfl rfl) (pv 7)).k)) (dss_one (ds_ret (de_bl))) (dss_nil)) (dss_forget 2 (dss_forget 3 (dss_forget 4 (dss_forget 5 (dss_forget 6 (dss_forget 7 (dss_forget 8 (dss_forget 9 (dss_forget 10 (dss_forget 11 (dss_forget 13 (dss_forget 14 (dss_forget 15 (dss_forget 16 (dss_forget 18 (dss_nil))))))))))))))))))))))))))) (dss_one (ds_ret (de_bl))))
theorem law_c {t : Tf} (T : GT K mg t w) (h : LawOk n_law 61 b_law) {f : Addr} {fd : FuncData} (F : Fun K "law" "law" s_law f fd) : FnOk P w K mg base (L2.CX P w) 9 f fd ["_law_script"] (spLaw K) :=
  law_fn (t := t) F sc_law h (by decide) fun cdv A outer s H E hr => law_body T cdv A outer s H E hr
end
theorem all_mk {l : PySem.W.OpenLaw} {w : World} {K : PySem.W.Frag} {h : Heap} {mg : Str → Option Value} {fa : Addr} (X : K.In h) (G : h.Ns mainGlobals mg) (hfa : mg "law" = some (.ref fa))
    {C0 : Addr}
    {f0 : Addr} {od0 an0 : Option Addr} {sl0 : Array (Option Value)} {oc0 kV0 dc0 pm0 cd0 ct0 : Value}
    {f1 : Addr} {od1 an1 : Option Addr} {sl1 : Array (Option Value)} {oc1 kV1 dc1 pm1 cd1 ct1 : Value}
    {f2 : Addr} {od2 an2 : Option Addr} {sl2 : Array (Option Value)} {oc2 kV2 dc2 pm2 cd2 ct2 : Value}
    {f3 : Addr} {od3 an3 : Option Addr} {sl3 : Array (Option Value)} {oc3 kV3 dc3 pm3 cd3 ct3 : Value}
    {f4 : Addr} {od4 an4 : Option Addr} {sl4 : Array (Option Value)} {oc4 kV4 dc4 pm4 cd4 ct4 : Value}
    {f5 : Addr} {od5 an5 : Option Addr} {sl5 : Array (Option Value)} {oc5 kV5 dc5 pm5 cd5 ct5 : Value}
    {f6 : Addr} {od6 an6 : Option Addr} {sl6 : Array (Option Value)} {oc6 kV6 dc6 pm6 cd6 ct6 : Value}
    {f7 : Addr} {od7 an7 : Option Addr} {sl7 : Array (Option Value)} {oc7 kV7 dc7 pm7 cd7 ct7 : Value}
    {f8 : Addr} {od8 an8 : Option Addr} {sl8 : Array (Option Value)} {oc8 kV8 dc8 pm8 cd8 ct8 : Value}
    {f9 : Addr} {od9 an9 : Option Addr} {sl9 : Array (Option Value)} {oc9 kV9 dc9 pm9 cd9 ct9 : Value}
    {f10 : Addr} {od10 an10 : Option Addr} {sl10 : Array (Option Value)} {oc10 kV10 dc10 pm10 cd10 ct10 : Value}
    {f11 : Addr} {od11 an11 : Option Addr} {sl11 : Array (Option Value)} {oc11 kV11 dc11 pm11 cd11 ct11 : Value}
    {f12 : Addr} {od12 an12 : Option Addr} {sl12 : Array (Option Value)} {oc12 kV12 dc12 pm12 cd12 ct12 : Value}
    {f13 : Addr} {od13 an13 : Option Addr} {sl13 : Array (Option Value)} {oc13 kV13 dc13 pm13 cd13 ct13 : Value}
    {f14 : Addr} {od14 an14 : Option Addr} {sl14 : Array (Option Value)} {oc14 kV14 dc14 pm14 cd14 ct14 : Value}
    {f15 : Addr} {od15 an15 : Option Addr} {sl15 : Array (Option Value)} {oc15 kV15 dc15 pm15 cd15 ct15 : Value}
    {f16 : Addr} {od16 an16 : Option Addr} {sl16 : Array (Option Value)} {oc16 kV16 dc16 pm16 cd16 ct16 : Value}
    {f17 : Addr} {od17 an17 : Option Addr} {sl17 : Array (Option Value)} {oc17 kV17 dc17 pm17 cd17 ct17 : Value}
    {f18 : Addr} {od18 an18 : Option Addr} {sl18 : Array (Option Value)} {oc18 kV18 dc18 pm18 cd18 ct18 : Value}
    {f19 : Addr} {od19 an19 : Option Addr} {sl19 : Array (Option Value)} {oc19 kV19 dc19 pm19 cd19 ct19 : Value}
    {f20 : Addr} {od20 an20 : Option Addr} {sl20 : Array (Option Value)} {oc20 kV20 dc20 pm20 cd20 ct20 : Value}
    {f21 : Addr} {od21 an21 : Option Addr} {sl21 : Array (Option Value)} {oc21 kV21 dc21 pm21 cd21 ct21 : Value}
    {f22 : Addr} {od22 an22 : Option Addr} {sl22 : Array (Option Value)} {oc22 kV22 dc22 pm22 cd22 ct22 : Value}
    {f23 : Addr} {od23 an23 : Option Addr} {sl23 : Array (Option Value)} {oc23 kV23 dc23 pm23 cd23 ct23 : Value}
    {f24 : Addr} {od24 an24 : Option Addr} {sl24 : Array (Option Value)} {oc24 kV24 dc24 pm24 cd24 ct24 : Value}
    {f25 : Addr} {od25 an25 : Option Addr} {sl25 : Array (Option Value)} {oc25 kV25 dc25 pm25 cd25 ct25 : Value}
    {f26 : Addr} {od26 an26 : Option Addr} {sl26 : Array (Option Value)} {oc26 kV26 dc26 pm26 cd26 ct26 : Value}
    {f27 : Addr} {od27 an27 : Option Addr} {sl27 : Array (Option Value)} {oc27 kV27 dc27 pm27 cd27 ct27 : Value}
    {f28 : Addr} {od28 an28 : Option Addr} {sl28 : Array (Option Value)} {oc28 kV28 dc28 pm28 cd28 ct28 : Value}
    {f29 : Addr} {od29 an29 : Option Addr} {sl29 : Array (Option Value)} {oc29 kV29 dc29 pm29 cd29 ct29 : Value}
    {f30 : Addr} {od30 an30 : Option Addr} {sl30 : Array (Option Value)} {oc30 kV30 dc30 pm30 cd30 ct30 : Value}
    {t_BAR : Tok}
    {t_BEAT : Tok}
    {t_KINDS : Tok}
    {t_MOST_BEATS : Tok}
    {t_MOST_JARS : Tok}
    {t_MOST_NEAR : Tok}
    {t_MOST_RULES : Tok}
    {t_OPEN : Tok}
    {t_PUT : Tok}
    {t_TAKE : Tok}
    {dt_SIZES : Addr}
    (n_0 : PySem.W.nsIn K mainGlobals "Shelf" = some (some (.ref C0)))
    (a0 : PySem.W.nsIn K mainGlobals "is_kind" = some (some (.ref f0))) (l0 : K.lookup f0 = some ⟨oc0, od0, .func (PySem.W.fnOf "is_kind" "is_kind" (defArgs s_is_kind) (defBody s_is_kind) (defScope s_is_kind) .none kV0 dc0 pm0 an0 cd0 ct0), sl0⟩) (c0 : PySem.W.codeIn K cd0 "is_kind" = true) (k0 : PySem.W.keepIn K (.ref f0) = true)
    (a1 : PySem.W.nsIn K mainGlobals "is_rule" = some (some (.ref f1))) (l1 : K.lookup f1 = some ⟨oc1, od1, .func (PySem.W.fnOf "is_rule" "is_rule" (defArgs s_is_rule) (defBody s_is_rule) (defScope s_is_rule) .none kV1 dc1 pm1 an1 cd1 ct1), sl1⟩) (c1 : PySem.W.codeIn K cd1 "is_rule" = true) (k1 : PySem.W.keepIn K (.ref f1) = true)
    (a2 : PySem.W.nsIn K mainGlobals "need_rules" = some (some (.ref f2))) (l2 : K.lookup f2 = some ⟨oc2, od2, .func (PySem.W.fnOf "need_rules" "need_rules" (defArgs s_need_rules) (defBody s_need_rules) (defScope s_need_rules) .none kV2 dc2 pm2 an2 cd2 ct2), sl2⟩) (c2 : PySem.W.codeIn K cd2 "need_rules" = true) (k2 : PySem.W.keepIn K (.ref f2) = true)
    (a3 : PySem.W.findIn K (.ref C0) "__init__" = some (some (.ref f3))) (l3 : K.lookup f3 = some ⟨oc3, od3, .func (PySem.W.fnOf "__init__" "Shelf.__init__" (defArgs s_Shelf___init__) (defBody s_Shelf___init__) (defScope s_Shelf___init__) .none kV3 dc3 pm3 an3 cd3 ct3), sl3⟩) (c3 : PySem.W.codeIn K cd3 "Shelf.__init__" = true) (k3 : PySem.W.keepIn K (.ref f3) = true) (w3 : PySem.W.isFn K (.ref f3) = true)
    (a4 : PySem.W.findIn K (.ref C0) "need_place" = some (some (.ref f4))) (l4 : K.lookup f4 = some ⟨oc4, od4, .func (PySem.W.fnOf "need_place" "Shelf.need_place" (defArgs s_Shelf_need_place) (defBody s_Shelf_need_place) (defScope s_Shelf_need_place) .none kV4 dc4 pm4 an4 cd4 ct4), sl4⟩) (c4 : PySem.W.codeIn K cd4 "Shelf.need_place" = true) (k4 : PySem.W.keepIn K (.ref f4) = true) (w4 : PySem.W.isFn K (.ref f4) = true)
    (a5 : PySem.W.findIn K (.ref C0) "bar" = some (some (.ref f5))) (l5 : K.lookup f5 = some ⟨oc5, od5, .func (PySem.W.fnOf "bar" "Shelf.bar" (defArgs s_Shelf_bar) (defBody s_Shelf_bar) (defScope s_Shelf_bar) .none kV5 dc5 pm5 an5 cd5 ct5), sl5⟩) (c5 : PySem.W.codeIn K cd5 "Shelf.bar" = true) (k5 : PySem.W.keepIn K (.ref f5) = true) (w5 : PySem.W.isFn K (.ref f5) = true)
    (a6 : PySem.W.findIn K (.ref C0) "deeds" = some (some (.ref f6))) (l6 : K.lookup f6 = some ⟨oc6, od6, .func (PySem.W.fnOf "deeds" "Shelf.deeds" (defArgs s_Shelf_deeds) (defBody s_Shelf_deeds) (defScope s_Shelf_deeds) .none kV6 dc6 pm6 an6 cd6 ct6), sl6⟩) (c6 : PySem.W.codeIn K cd6 "Shelf.deeds" = true) (k6 : PySem.W.keepIn K (.ref f6) = true) (w6 : PySem.W.isFn K (.ref f6) = true)
    (a7 : PySem.W.findIn K (.ref C0) "look" = some (some (.ref f7))) (l7 : K.lookup f7 = some ⟨oc7, od7, .func (PySem.W.fnOf "look" "Shelf.look" (defArgs s_Shelf_look) (defBody s_Shelf_look) (defScope s_Shelf_look) .none kV7 dc7 pm7 an7 cd7 ct7), sl7⟩) (c7 : PySem.W.codeIn K cd7 "Shelf.look" = true) (k7 : PySem.W.keepIn K (.ref f7) = true) (w7 : PySem.W.isFn K (.ref f7) = true)
    (a8 : PySem.W.findIn K (.ref C0) "put" = some (some (.ref f8))) (l8 : K.lookup f8 = some ⟨oc8, od8, .func (PySem.W.fnOf "put" "Shelf.put" (defArgs s_Shelf_put) (defBody s_Shelf_put) (defScope s_Shelf_put) .none kV8 dc8 pm8 an8 cd8 ct8), sl8⟩) (c8 : PySem.W.codeIn K cd8 "Shelf.put" = true) (k8 : PySem.W.keepIn K (.ref f8) = true) (w8 : PySem.W.isFn K (.ref f8) = true)
    (a9 : PySem.W.nsIn K mainGlobals "beside" = some (some (.ref f9))) (l9 : K.lookup f9 = some ⟨oc9, od9, .func (PySem.W.fnOf "beside" "beside" (defArgs s_beside) (defBody s_beside) (defScope s_beside) .none kV9 dc9 pm9 an9 cd9 ct9), sl9⟩) (c9 : PySem.W.codeIn K cd9 "beside" = true) (k9 : PySem.W.keepIn K (.ref f9) = true)
    (a10 : PySem.W.nsIn K mainGlobals "counted" = some (some (.ref f10))) (l10 : K.lookup f10 = some ⟨oc10, od10, .func (PySem.W.fnOf "counted" "counted" (defArgs s_counted) (defBody s_counted) (defScope s_counted) .none kV10 dc10 pm10 an10 cd10 ct10), sl10⟩) (c10 : PySem.W.codeIn K cd10 "counted" = true) (k10 : PySem.W.keepIn K (.ref f10) = true)
    (a11 : PySem.W.nsIn K mainGlobals "turned" = some (some (.ref f11))) (l11 : K.lookup f11 = some ⟨oc11, od11, .func (PySem.W.fnOf "turned" "turned" (defArgs s_turned) (defBody s_turned) (defScope s_turned) .none kV11 dc11 pm11 an11 cd11 ct11), sl11⟩) (c11 : PySem.W.codeIn K cd11 "turned" = true) (k11 : PySem.W.keepIn K (.ref f11) = true)
    (a12 : PySem.W.nsIn K mainGlobals "beat_of" = some (some (.ref f12))) (l12 : K.lookup f12 = some ⟨oc12, od12, .func (PySem.W.fnOf "beat_of" "beat_of" (defArgs s_beat_of) (defBody s_beat_of) (defScope s_beat_of) .none kV12 dc12 pm12 an12 cd12 ct12), sl12⟩) (c12 : PySem.W.codeIn K cd12 "beat_of" = true) (k12 : PySem.W.keepIn K (.ref f12) = true)
    (a13 : PySem.W.findIn K (.ref C0) "bars" = some (some (.ref f13))) (l13 : K.lookup f13 = some ⟨oc13, od13, .func (PySem.W.fnOf "bars" "Shelf.bars" (defArgs s_Shelf_bars) (defBody s_Shelf_bars) (defScope s_Shelf_bars) .none kV13 dc13 pm13 an13 cd13 ct13), sl13⟩) (c13 : PySem.W.codeIn K cd13 "Shelf.bars" = true) (k13 : PySem.W.keepIn K (.ref f13) = true) (w13 : PySem.W.isFn K (.ref f13) = true)
    (a14 : PySem.W.findIn K (.ref C0) "tick" = some (some (.ref f14))) (l14 : K.lookup f14 = some ⟨oc14, od14, .func (PySem.W.fnOf "tick" "Shelf.tick" (defArgs s_Shelf_tick) (defBody s_Shelf_tick) (defScope s_Shelf_tick) .none kV14 dc14 pm14 an14 cd14 ct14), sl14⟩) (c14 : PySem.W.codeIn K cd14 "Shelf.tick" = true) (k14 : PySem.W.keepIn K (.ref f14) = true) (w14 : PySem.W.isFn K (.ref f14) = true)
    (a15 : PySem.W.findIn K (.ref C0) "world" = some (some (.ref f15))) (l15 : K.lookup f15 = some ⟨oc15, od15, .func (PySem.W.fnOf "world" "Shelf.world" (defArgs s_Shelf_world) (defBody s_Shelf_world) (defScope s_Shelf_world) .none kV15 dc15 pm15 an15 cd15 ct15), sl15⟩) (c15 : PySem.W.codeIn K cd15 "Shelf.world" = true) (k15 : PySem.W.keepIn K (.ref f15) = true) (w15 : PySem.W.isFn K (.ref f15) = true)
    (a16 : PySem.W.findIn K (.ref C0) "take" = some (some (.ref f16))) (l16 : K.lookup f16 = some ⟨oc16, od16, .func (PySem.W.fnOf "take" "Shelf.take" (defArgs s_Shelf_take) (defBody s_Shelf_take) (defScope s_Shelf_take) .none kV16 dc16 pm16 an16 cd16 ct16), sl16⟩) (c16 : PySem.W.codeIn K cd16 "Shelf.take" = true) (k16 : PySem.W.keepIn K (.ref f16) = true) (w16 : PySem.W.isFn K (.ref f16) = true)
    (a17 : PySem.W.findIn K (.ref C0) "unbar" = some (some (.ref f17))) (l17 : K.lookup f17 = some ⟨oc17, od17, .func (PySem.W.fnOf "unbar" "Shelf.unbar" (defArgs s_Shelf_unbar) (defBody s_Shelf_unbar) (defScope s_Shelf_unbar) .none kV17 dc17 pm17 an17 cd17 ct17), sl17⟩) (c17 : PySem.W.codeIn K cd17 "Shelf.unbar" = true) (k17 : PySem.W.keepIn K (.ref f17) = true) (w17 : PySem.W.isFn K (.ref f17) = true)
    (a18 : PySem.W.nsIn K mainGlobals "do" = some (some (.ref f18))) (l18 : K.lookup f18 = some ⟨oc18, od18, .func (PySem.W.fnOf "do" "do" (defArgs s_do) (defBody s_do) (defScope s_do) .none kV18 dc18 pm18 an18 cd18 ct18), sl18⟩) (c18 : PySem.W.codeIn K cd18 "do" = true) (k18 : PySem.W.keepIn K (.ref f18) = true)
    (a19 : PySem.W.nsIn K mainGlobals "again" = some (some (.ref f19))) (l19 : K.lookup f19 = some ⟨oc19, od19, .func (PySem.W.fnOf "again" "again" (defArgs s_again) (defBody s_again) (defScope s_again) .none kV19 dc19 pm19 an19 cd19 ct19), sl19⟩) (c19 : PySem.W.codeIn K cd19 "again" = true) (k19 : PySem.W.keepIn K (.ref f19) = true)
    (a20 : PySem.W.nsIn K mainGlobals "need_row" = some (some (.ref f20))) (l20 : K.lookup f20 = some ⟨oc20, od20, .func (PySem.W.fnOf "need_row" "need_row" (defArgs s_need_row) (defBody s_need_row) (defScope s_need_row) .none kV20 dc20 pm20 an20 cd20 ct20), sl20⟩) (c20 : PySem.W.codeIn K cd20 "need_row" = true) (k20 : PySem.W.keepIn K (.ref f20) = true)
    (a21 : PySem.W.nsIn K mainGlobals "need_bars" = some (some (.ref f21))) (l21 : K.lookup f21 = some ⟨oc21, od21, .func (PySem.W.fnOf "need_bars" "need_bars" (defArgs s_need_bars) (defBody s_need_bars) (defScope s_need_bars) .none kV21 dc21 pm21 an21 cd21 ct21), sl21⟩) (c21 : PySem.W.codeIn K cd21 "need_bars" = true) (k21 : PySem.W.keepIn K (.ref f21) = true)
    (a22 : PySem.W.nsIn K mainGlobals "need_world" = some (some (.ref f22))) (l22 : K.lookup f22 = some ⟨oc22, od22, .func (PySem.W.fnOf "need_world" "need_world" (defArgs s_need_world) (defBody s_need_world) (defScope s_need_world) .none kV22 dc22 pm22 an22 cd22 ct22), sl22⟩) (c22 : PySem.W.codeIn K cd22 "need_world" = true) (k22 : PySem.W.keepIn K (.ref f22) = true)
    (a23 : PySem.W.nsIn K mainGlobals "begun" = some (some (.ref f23))) (l23 : K.lookup f23 = some ⟨oc23, od23, .func (PySem.W.fnOf "begun" "begun" (defArgs s_begun) (defBody s_begun) (defScope s_begun) .none kV23 dc23 pm23 an23 cd23 ct23), sl23⟩) (c23 : PySem.W.codeIn K cd23 "begun" = true) (k23 : PySem.W.keepIn K (.ref f23) = true)
    (a24 : PySem.W.nsIn K mainGlobals "beats" = some (some (.ref f24))) (l24 : K.lookup f24 = some ⟨oc24, od24, .func (PySem.W.fnOf "beats" "beats" (defArgs s_beats) (defBody s_beats) (defScope s_beats) .none kV24 dc24 pm24 an24 cd24 ct24), sl24⟩) (c24 : PySem.W.codeIn K cd24 "beats" = true) (k24 : PySem.W.keepIn K (.ref f24) = true)
    (a25 : PySem.W.nsIn K mainGlobals "_law_next" = some (some (.ref f25))) (l25 : K.lookup f25 = some ⟨oc25, od25, .func (PySem.W.fnOf "_law_next" "_law_next" (defArgs s__law_next) (defBody s__law_next) (defScope s__law_next) .none kV25 dc25 pm25 an25 cd25 ct25), sl25⟩) (c25 : PySem.W.codeIn K cd25 "_law_next" = true) (k25 : PySem.W.keepIn K (.ref f25) = true)
    (a26 : PySem.W.nsIn K mainGlobals "_law_alike" = some (some (.ref f26))) (l26 : K.lookup f26 = some ⟨oc26, od26, .func (PySem.W.fnOf "_law_alike" "_law_alike" (defArgs s__law_alike) (defBody s__law_alike) (defScope s__law_alike) .none kV26 dc26 pm26 an26 cd26 ct26), sl26⟩) (c26 : PySem.W.codeIn K cd26 "_law_alike" = true) (k26 : PySem.W.keepIn K (.ref f26) = true)
    (a27 : PySem.W.nsIn K mainGlobals "_law_rules" = some (some (.ref f27))) (l27 : K.lookup f27 = some ⟨oc27, od27, .func (PySem.W.fnOf "_law_rules" "_law_rules" (defArgs s__law_rules) (defBody s__law_rules) (defScope s__law_rules) .none kV27 dc27 pm27 an27 cd27 ct27), sl27⟩) (c27 : PySem.W.codeIn K cd27 "_law_rules" = true) (k27 : PySem.W.keepIn K (.ref f27) = true)
    (a28 : PySem.W.nsIn K mainGlobals "_law_world" = some (some (.ref f28))) (l28 : K.lookup f28 = some ⟨oc28, od28, .func (PySem.W.fnOf "_law_world" "_law_world" (defArgs s__law_world) (defBody s__law_world) (defScope s__law_world) .none kV28 dc28 pm28 an28 cd28 ct28), sl28⟩) (c28 : PySem.W.codeIn K cd28 "_law_world" = true) (k28 : PySem.W.keepIn K (.ref f28) = true)
    (a29 : PySem.W.nsIn K mainGlobals "_law_mix" = some (some (.ref f29))) (l29 : K.lookup f29 = some ⟨oc29, od29, .func (PySem.W.fnOf "_law_mix" "_law_mix" (defArgs s__law_mix) (defBody s__law_mix) (defScope s__law_mix) .none kV29 dc29 pm29 an29 cd29 ct29), sl29⟩) (c29 : PySem.W.codeIn K cd29 "_law_mix" = true) (k29 : PySem.W.keepIn K (.ref f29) = true)
    (a30 : PySem.W.nsIn K mainGlobals "law" = some (some (.ref f30))) (l30 : K.lookup f30 = some ⟨oc30, od30, .func (PySem.W.fnOf "law" "law" (defArgs s_law) (defBody s_law) (defScope s_law) .none kV30 dc30 pm30 an30 cd30 ct30), sl30⟩) (c30 : PySem.W.codeIn K cd30 "law" = true) (k30 : PySem.W.keepIn K (.ref f30) = true)
    (op_0 : PySem.W.plainGet K C0 Str.empty = true)
    (oh_0 : PySem.W.hasDictIn K C0 = true)
    (oo_0 : PySem.W.plainOver K C0 = true)
    (os_0 : PySem.W.findIn K (.ref C0) "__setattr__" = some (some (.builtin "object.__setattr__")))
    (om_0 : PySem.W.makesIn K C0 = true)
    (ok_0 : PySem.W.keepIn K (.ref C0) = true)
    (na_counts : PySem.W.findIn K (.ref C0) "counts" = some none)
    (na_notes : PySem.W.findIn K (.ref C0) "notes" = some none)
    (na_row : PySem.W.findIn K (.ref C0) "row" = some none)
    (na_rules : PySem.W.findIn K (.ref C0) "rules" = some none)
    (na_walls : PySem.W.findIn K (.ref C0) "walls" = some none)
    (g_BAR : PySem.W.nsIn K mainGlobals "BAR" = some (some (.str "bar" t_BAR)))
    (g_BEAT : PySem.W.nsIn K mainGlobals "BEAT" = some (some (.str "tick" t_BEAT)))
    (g_KINDS : PySem.W.nsIn K mainGlobals "KINDS" = some (some (.str "abcde" t_KINDS)))
    (g_MOST_BEATS : PySem.W.nsIn K mainGlobals "MOST_BEATS" = some (some (.int 4 t_MOST_BEATS)))
    (g_MOST_JARS : PySem.W.nsIn K mainGlobals "MOST_JARS" = some (some (.int 12 t_MOST_JARS)))
    (g_MOST_NEAR : PySem.W.nsIn K mainGlobals "MOST_NEAR" = some (some (.int 300 t_MOST_NEAR)))
    (g_MOST_RULES : PySem.W.nsIn K mainGlobals "MOST_RULES" = some (some (.int 5 t_MOST_RULES)))
    (g_OPEN : PySem.W.nsIn K mainGlobals "OPEN" = some (some (.str "unbar" t_OPEN)))
    (g_PUT : PySem.W.nsIn K mainGlobals "PUT" = some (some (.str "put" t_PUT)))
    (g_TAKE : PySem.W.nsIn K mainGlobals "TAKE" = some (some (.str "take" t_TAKE)))
    (kn_SIZES : PySem.W.nsIn K mainGlobals "SIZES" = some (some (.ref dt_SIZES)))
    (kd_SIZES : He.dicW K dt_SIZES = some (He.keysIn w.params ["put", "take", "bar", "unbar", "tick"]))
    (kl_SIZES : tabOk K dt_SIZES [([112, 117, 116], 3), ([116, 97, 107, 101], 2), ([98, 97, 114], 2), ([117, 110, 98, 97, 114], 2), ([116, 105, 99, 107], 1)] = true)
    (z_bool : PySem.W.nsIn K mainGlobals "bool" = some none)
    (z_enumerate : PySem.W.nsIn K mainGlobals "enumerate" = some none)
    (z_int : PySem.W.nsIn K mainGlobals "int" = some none)
    (z_isinstance : PySem.W.nsIn K mainGlobals "isinstance" = some none)
    (z_len : PySem.W.nsIn K mainGlobals "len" = some none)
    (z_list : PySem.W.nsIn K mainGlobals "list" = some none)
    (z_max : PySem.W.nsIn K mainGlobals "max" = some none)
    (z_min : PySem.W.nsIn K mainGlobals "min" = some none)
    (z_range : PySem.W.nsIn K mainGlobals "range" = some none)
    (z_str : PySem.W.nsIn K mainGlobals "str" = some none)
    (z_tuple : PySem.W.nsIn K mainGlobals "tuple" = some none)
    (z_zip : PySem.W.nsIn K mainGlobals "zip" = some none)
    (hok : LawOk n_law 61 b_law) : ∃ fd : FuncData, (∀ (s : Shared) (v : Value), BindsTo s fd ⟨[v], []⟩ [("_law_script", v)]) ∧ ∀ base : Heap, K.In base → base.Ns mainGlobals mg → FnOk l.prog w K mg base (L2.CX l.prog w) 9 fa fd ["_law_script"] (spLaw K) := by
  have e := hfa.symm.trans (PySem.W.mg_of X G a30)
  cases e
  have T : GT K mg ⟨fun i => [C0].getD i 0, fun _ => ""⟩ w := ⟨⟨_, _, fun_mk (st := s_is_kind) l0 c0 k0, PySem.W.mg_of X G a0⟩, ⟨_, _, fun_mk (st := s_is_rule) l1 c1 k1, PySem.W.mg_of X G a1⟩, ⟨_, _, fun_mk (st := s_need_rules) l2 c2 k2, PySem.W.mg_of X G a2⟩, ⟨_, _, fun_mk (st := s_Shelf___init__) l3 c3 k3, a3, w3⟩, ⟨_, _, fun_mk (st := s_Shelf_need_place) l4 c4 k4, a4, w4⟩, ⟨_, _, fun_mk (st := s_Shelf_bar) l5 c5 k5, a5, w5⟩, ⟨_, _, fun_mk (st := s_Shelf_deeds) l6 c6 k6, a6, w6⟩, ⟨_, _, fun_mk (st := s_Shelf_look) l7 c7 k7, a7, w7⟩, ⟨_, _, fun_mk (st := s_Shelf_put) l8 c8 k8, a8, w8⟩, ⟨_, _, fun_mk (st := s_beside) l9 c9 k9, PySem.W.mg_of X G a9⟩, ⟨_, _, fun_mk (st := s_counted) l10 c10 k10, PySem.W.mg_of X G a10⟩, ⟨_, _, fun_mk (st := s_turned) l11 c11 k11, PySem.W.mg_of X G a11⟩, ⟨_, _, fun_mk (st := s_beat_of) l12 c12 k12, PySem.W.mg_of X G a12⟩, ⟨_, _, fun_mk (st := s_Shelf_bars) l13 c13 k13, a13, w13⟩, ⟨_, _, fun_mk (st := s_Shelf_tick) l14 c14 k14, a14, w14⟩, ⟨_, _, fun_mk (st := s_Shelf_world) l15 c15 k15, a15, w15⟩, ⟨_, _, fun_mk (st := s_Shelf_take) l16 c16 k16, a16, w16⟩, ⟨_, _, fun_mk (st := s_Shelf_unbar) l17 c17 k17, a17, w17⟩, ⟨_, _, fun_mk (st := s_do) l18 c18 k18, PySem.W.mg_of X G a18⟩, ⟨_, _, fun_mk (st := s_again) l19 c19 k19, PySem.W.mg_of X G a19⟩, ⟨_, _, fun_mk (st := s_need_row) l20 c20 k20, PySem.W.mg_of X G a20⟩, ⟨_, _, fun_mk (st := s_need_bars) l21 c21 k21, PySem.W.mg_of X G a21⟩, ⟨_, _, fun_mk (st := s_need_world) l22 c22 k22, PySem.W.mg_of X G a22⟩, ⟨_, _, fun_mk (st := s_begun) l23 c23 k23, PySem.W.mg_of X G a23⟩, ⟨_, _, fun_mk (st := s_beats) l24 c24 k24, PySem.W.mg_of X G a24⟩, ⟨_, _, fun_mk (st := s__law_next) l25 c25 k25, PySem.W.mg_of X G a25⟩, ⟨_, _, fun_mk (st := s__law_alike) l26 c26 k26, PySem.W.mg_of X G a26⟩, ⟨_, _, fun_mk (st := s__law_rules) l27 c27 k27, PySem.W.mg_of X G a27⟩, ⟨_, _, fun_mk (st := s__law_world) l28 c28 k28, PySem.W.mg_of X G a28⟩, ⟨_, _, fun_mk (st := s__law_mix) l29 c29 k29, PySem.W.mg_of X G a29⟩, ⟨_, _, fun_mk (st := s_law) l30 c30 k30, PySem.W.mg_of X G a30⟩, ⟨⟨PySem.W.mg_of X G n_0, ⟨op_0, oh_0, oo_0, os_0⟩⟩, om_0, ok_0⟩, na_counts, na_notes, na_row, na_rules, na_walls, ⟨_, PySem.W.mg_of X G g_BAR⟩, ⟨_, PySem.W.mg_of X G g_BEAT⟩, ⟨_, PySem.W.mg_of X G g_KINDS⟩, ⟨_, PySem.W.mg_of X G g_MOST_BEATS⟩, ⟨_, PySem.W.mg_of X G g_MOST_JARS⟩, ⟨_, PySem.W.mg_of X G g_MOST_NEAR⟩, ⟨_, PySem.W.mg_of X G g_MOST_RULES⟩, ⟨_, PySem.W.mg_of X G g_OPEN⟩, ⟨_, PySem.W.mg_of X G g_PUT⟩, ⟨_, PySem.W.mg_of X G g_TAKE⟩, KTab.of (PySem.W.mg_of X G kn_SIZES) kd_SIZES kl_SIZES, PySem.W.mg_none_of X G z_bool, PySem.W.mg_none_of X G z_enumerate, PySem.W.mg_none_of X G z_int, PySem.W.mg_none_of X G z_isinstance, PySem.W.mg_none_of X G z_len, PySem.W.mg_none_of X G z_list, PySem.W.mg_none_of X G z_max, PySem.W.mg_none_of X G z_min, PySem.W.mg_none_of X G z_range, PySem.W.mg_none_of X G z_str, PySem.W.mg_none_of X G z_tuple, PySem.W.mg_none_of X G z_zip⟩
  exact ⟨PySem.W.fnOf "law" "law" (defArgs s_law) (defBody s_law) (defScope s_law) .none kV30 dc30 pm30 an30 cd30 ct30, fun s v => .of_eq rfl, fun base _ _ => law_c T hok (fun_mk (st := s_law) l30 c30 k30)⟩
theorem walk {l : PySem.W.OpenLaw} {q : Program} {loose : List Str} {XP : (Str → Option Value) → Heap → Prop} {YP : World → Heap → Prop} {d : DefRec} {K : Params → PySem.W.Frag} (hn : l.most = some 63) (hdf : d.params.defaults = [])
    (hY : ∀ (w : World) (h : Heap), YP w h → (K w.params).In h)
    (F : ∀ (w : World) (mg : Str → Option Value) (fa : Addr) (h : Heap), (K w.params).In h → h.Ns mainGlobals mg → mg d.name = some (.ref fa) →
      ∃ fd : FuncData, (∀ (s : Shared) (u : Value), BindsTo s fd ⟨[u], []⟩ [("_law_script", u)]) ∧ ∀ base : Heap, (K w.params).In base → base.Ns mainGlobals mg → FnOk l.prog w (K w.params) mg base (L2.CX l.prog w) 9 fa fd ["_law_script"] (spLaw (K w.params))) :
    PySem.W.WalkO q loose XP YP l.row.toRowW d [] (fun f vs => PySem.call f vs) :=
  L2.walk_of (n := 63) (k := 9) (x := "_law_script") (CX := fun w => L2.CX l.prog w) (sp := fun w => spLaw (K w.params)) hn (by decide) hdf ⟨rfl, by decide, by decide⟩ hY F (fun _ _ a ns hl hO hS => ⟨a, ns, rfl, hl, hS, hO, fun _ => rfl⟩) fun _ _ _ _ _ ⟨_, _, _, _, _, _, _, _, _, _, _, _, z⟩ => z
end Dl
open PySem PySem.W PyProof.Rows
set_option maxRecDepth 100000 in
set_option maxHeartbeats 0 in
theorem PySem.Challenge.cw_sourrow_k17_whole_shelves_and_rows_holds : PySem.Challenge.rw_sourrow_k17_whole_shelves_and_rows.Holds := by
  w_on; o_law; k_head; (case hw => w_witness2)
  k_fill
  refine Dl.walk (l := PySem.Challenge.rw_sourrow_k17_whole_shelves_and_rows) rfl rfl (fun w h Y => PySem.W.kIn_of Y) ?F
  case F =>
    intro w mg fa h KX G hmg
    refine' Dl.all_mk KX G hmg ?n_0 ?a0 ?l0 ?c0 ?k0 ?a1 ?l1 ?c1 ?k1 ?a2 ?l2 ?c2 ?k2 ?a3 ?l3 ?c3 ?k3 ?w3 ?a4 ?l4 ?c4 ?k4 ?w4 ?a5 ?l5 ?c5 ?k5 ?w5 ?a6 ?l6 ?c6 ?k6 ?w6 ?a7 ?l7 ?c7 ?k7 ?w7 ?a8 ?l8 ?c8 ?k8 ?w8 ?a9 ?l9 ?c9 ?k9 ?a10 ?l10 ?c10 ?k10 ?a11 ?l11 ?c11 ?k11 ?a12 ?l12 ?c12 ?k12 ?a13 ?l13 ?c13 ?k13 ?w13 ?a14 ?l14 ?c14 ?k14 ?w14 ?a15 ?l15 ?c15 ?k15 ?w15 ?a16 ?l16 ?c16 ?k16 ?w16 ?a17 ?l17 ?c17 ?k17 ?w17 ?a18 ?l18 ?c18 ?k18 ?a19 ?l19 ?c19 ?k19 ?a20 ?l20 ?c20 ?k20 ?a21 ?l21 ?c21 ?k21 ?a22 ?l22 ?c22 ?k22 ?a23 ?l23 ?c23 ?k23 ?a24 ?l24 ?c24 ?k24 ?a25 ?l25 ?c25 ?k25 ?a26 ?l26 ?c26 ?k26 ?a27 ?l27 ?c27 ?k27 ?a28 ?l28 ?c28 ?k28 ?a29 ?l29 ?c29 ?k29 ?a30 ?l30 ?c30 ?k30 ?op_0 ?oh_0 ?oo_0 ?os_0 ?om_0 ?ok_0 ?na_counts ?na_notes ?na_row ?na_rules ?na_walls ?g_BAR ?g_BEAT ?g_KINDS ?g_MOST_BEATS ?g_MOST_JARS ?g_MOST_NEAR ?g_MOST_RULES ?g_OPEN ?g_PUT ?g_TAKE ?kn_SIZES ?kd_SIZES ?kl_SIZES ?z_bool ?z_enumerate ?z_int ?z_isinstance ?z_len ?z_list ?z_max ?z_min ?z_range ?z_str ?z_tuple ?z_zip Dl.law_ok
    (case n_0 => k_is); (case a0 => k_is); (case l0 => k_is); (case c0 => k_is)
    (case k0 => k_is); (case a1 => k_is); (case l1 => k_is); (case c1 => k_is)
    (case k1 => k_is); (case a2 => k_is); (case l2 => k_is); (case c2 => k_is)
    (case k2 => k_is); (case a3 => k_is); (case l3 => k_is); (case c3 => k_is)
    (case k3 => k_is); (case w3 => k_is); (case a4 => k_is); (case l4 => k_is)
    (case c4 => k_is); (case k4 => k_is); (case w4 => k_is); (case a5 => k_is)
    (case l5 => k_is); (case c5 => k_is); (case k5 => k_is); (case w5 => k_is)
    (case a6 => k_is); (case l6 => k_is); (case c6 => k_is); (case k6 => k_is)
    (case w6 => k_is); (case a7 => k_is); (case l7 => k_is); (case c7 => k_is)
    (case k7 => k_is); (case w7 => k_is); (case a8 => k_is); (case l8 => k_is)
    (case c8 => k_is); (case k8 => k_is); (case w8 => k_is); (case a9 => k_is)
    (case l9 => k_is); (case c9 => k_is); (case k9 => k_is); (case a10 => k_is)
    (case l10 => k_is); (case c10 => k_is); (case k10 => k_is); (case a11 => k_is)
    (case l11 => k_is); (case c11 => k_is); (case k11 => k_is); (case a12 => k_is)
    (case l12 => k_is); (case c12 => k_is); (case k12 => k_is); (case a13 => k_is)
    (case l13 => k_is); (case c13 => k_is); (case k13 => k_is); (case w13 => k_is)
    (case a14 => k_is); (case l14 => k_is); (case c14 => k_is); (case k14 => k_is)
    (case w14 => k_is); (case a15 => k_is); (case l15 => k_is); (case c15 => k_is)
    (case k15 => k_is); (case w15 => k_is); (case a16 => k_is); (case l16 => k_is)
    (case c16 => k_is); (case k16 => k_is); (case w16 => k_is); (case a17 => k_is)
    (case l17 => k_is); (case c17 => k_is); (case k17 => k_is); (case w17 => k_is)
    (case a18 => k_is); (case l18 => k_is); (case c18 => k_is); (case k18 => k_is)
    (case a19 => k_is); (case l19 => k_is); (case c19 => k_is); (case k19 => k_is)
    (case a20 => k_is); (case l20 => k_is); (case c20 => k_is); (case k20 => k_is)
    (case a21 => k_is); (case l21 => k_is); (case c21 => k_is); (case k21 => k_is)
    (case a22 => k_is); (case l22 => k_is); (case c22 => k_is); (case k22 => k_is)
    (case a23 => k_is); (case l23 => k_is); (case c23 => k_is); (case k23 => k_is)
    (case a24 => k_is); (case l24 => k_is); (case c24 => k_is); (case k24 => k_is)
    (case a25 => k_is); (case l25 => k_is); (case c25 => k_is); (case k25 => k_is)
    (case a26 => k_is); (case l26 => k_is); (case c26 => k_is); (case k26 => k_is)
    (case a27 => k_is); (case l27 => k_is); (case c27 => k_is); (case k27 => k_is)
    (case a28 => k_is); (case l28 => k_is); (case c28 => k_is); (case k28 => k_is)
    (case a29 => k_is); (case l29 => k_is); (case c29 => k_is); (case k29 => k_is)
    (case a30 => k_is); (case l30 => k_is); (case c30 => k_is); (case k30 => k_is)
    (case op_0 => k_is); (case oh_0 => k_is); (case oo_0 => k_is); (case os_0 => k_is)
    (case om_0 => k_is); (case ok_0 => k_is); (case na_counts => k_is); (case na_notes => k_is)
    (case na_row => k_is); (case na_rules => k_is); (case na_walls => k_is); (case g_BAR => k_is)
    (case g_BEAT => k_is); (case g_KINDS => k_is); (case g_MOST_BEATS => k_is); (case g_MOST_JARS => k_is)
    (case g_MOST_NEAR => k_is); (case g_MOST_RULES => k_is); (case g_OPEN => k_is); (case g_PUT => k_is)
    (case g_TAKE => k_is); (case kn_SIZES => k_is); (case kd_SIZES => kernel_rfl); (case kl_SIZES => kernel_rfl)
    (case z_bool => k_is); (case z_enumerate => k_is); (case z_int => k_is); (case z_isinstance => k_is)
    (case z_len => k_is); (case z_list => k_is); (case z_max => k_is); (case z_min => k_is)
    (case z_range => k_is); (case z_str => k_is); (case z_tuple => k_is); (case z_zip => k_is)

