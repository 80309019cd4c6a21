import PyProof.Rows.All
import HandS.ForMost
import HandS.ForExc
import HandS.IsInst
import HandS.Lambda
import KE.KDflt
import HandS.TupAny
import HandS.TupMul
import PyProof.WalksMore
import HandS.Wide
import HandS.Deep
import HandS.Zip
import KE.KDictZip
import HandS.SetFor
import HandS.More
import HandS.Dict
import HandS.Small
import HandS.EndOwn
import KE.KExcIs
import HandS.ExcField
import Wide.All
import OpenK.AllK
import Open.SpecLaws
import KE.OsGo
import PySem.Challenge.RW_causalports_k02_tokens
set_option Elab.async false
set_option linter.all false
set_option maxRecDepth 100000
/-! ## DL1 -/
namespace DL
open PySem PySem.Spec PyProof.Rows L2 LamX

/-! ### data: tuples by value, objects that may change by address -/
/-- a lambda of the text -/
structure LF where
  qual : Str
  params : Arguments
  body : Expr
  scope : Scope
inductive D where
  | non | bl (b : Bool) | int (i : Int) | str (s : Str) | tup (xs : List D) | ref (a : Addr)
  /-- a lambda made in the frame whose cells are these -/
  | fn (L : LF) (cells : List (Str × Addr))
  /-- the same while another def runs: what the cells hold -/
  | fnS (L : LF) (cells : List (Str × Addr)) (vals : List (Str × D))
  /-- a list that no one changes, by value -/
  | rl (ds : List D)
/-- the object of a lambda: its code object at c, its defaults dV -/
def lamObj (L : LF) (cl : List (Str × Addr)) (doc pm ctv dV : Value) (c : Addr) : Obj := PySem.W.kdv_obj "<lambda>" L.qual L.params (.expr L.body) L.scope cl dV doc pm c ctv
def DfV (K : PySem.W.Frag) (H : Hp) (L : LF) (dV : Value) : Prop := (L.params.defaults = [] ∧ dV = .none) ∨ (L.params.defaults.length = 1 ∧ ∃ T v, dV = .ref T ∧ Rd H T (.tup [v]))
def FnR (K : PySem.W.Frag) (H : Hp) (L : LF) (cells : List (Str × Addr)) (v : V) : Prop :=
  ∃ f c doc pm ctv dV, v = .ref f ∧ H f = some (.frz (lamObj L (cloFrom cells L.scope.names []) doc pm ctv dV c) (.own 0)) ∧ H c = some (CodeO c L.qual) ∧ DfV K H L dV ∧ ∀ x y a, cells.lookup x = some a → cells.lookup y = some a → x = y

/-- a list that no one changes -/
def SqF (K : PySem.W.Frag) (H : Hp) (p : Addr) (vs : List V) : Prop := (∃ o, H p = some (.frz o (.lst vs))) ∨ SqL K (fun _ => none) p vs
/-- what no one writes any more, known to the object -/
def Fz (H : Hp) (a : Addr) (o : Obj) : Prop := H a = some (.frz o (.own 0))
mutual
def Rep (K : PySem.W.Frag) (H : Hp) : D → V → Prop
  | .non, v => v = .non
  | .bl b, v => v = .bl b
  | .int i, v => v = .int i
  | .str s, v => v = .str s
  | .ref a, v => v = .ref a
  | .fn L cells, v => FnR K H L cells v
  | .fnS L cells vals, v => FnR K H L cells v ∧ RepC K H cells vals
  | .tup ds, v => ∃ p vs, v = .ref p ∧ SqT K H p vs ∧ Reps K H ds vs
  | .rl ds, v => ∃ p vs, v = .ref p ∧ SqF K H p vs ∧ Reps K H ds vs
def Reps (K : PySem.W.Frag) (H : Hp) : List D → List V → Prop
  | [], vs => vs = []
  | d :: ds, vs => ∃ v vr, vs = v :: vr ∧ Rep K H d v ∧ Reps K H ds vr
/-- the cells' values -/
def RepC (K : PySem.W.Frag) (H : Hp) (cells : List (Str × Addr)) : List (Str × D) → Prop
  | [] => True
  | (y, d) :: r => (∃ c o u v, cells.lookup y = some c ∧ Fz H c o ∧ o.data = .cell (some u) ∧ RelV v u ∧ Rep K H d v) ∧ RepC K H cells r
end

inductive MO where
  | lst (ds : List D)
  | dic (kvs : List (Key × D))
  | dit (kvs : List (List Key × D))
  | ins (C : Addr) (fs : List (Str × D))
  | box
  /-- the table of the code objects of a def -/
  | tab (q : Str)
  /-- the dict of an exception -/
  | xdo (fs : List (Str × D))

abbrev Store := Addr → Option MO
abbrev Own := Addr → Option Addr
def sup (S : Store) (a : Addr) (o : MO) : Store := fun b => if b = a then some o else S b
def sdel (S : Store) (a : Addr) : Store := fun b => if b = a then none else S b
theorem sup_same {S : Store} {a : Addr} {o : MO} : sup S a o a = some o := if_pos rfl
theorem sup_ne {S : Store} {a b : Addr} {o : MO} (h : b ≠ a) : sup S a o b = S b := if_neg h
theorem sup_sup {S : Store} {a : Addr} {o u : MO} : sup (sup S a o) a u = sup S a u := by
  funext b; unfold sup; split <;> rfl
theorem sne {S : Store} {a b : Addr} {o : MO} (h : S a = some o) (h' : S b = none) : a ≠ b := by
  intro e; subst e; rw [h] at h'; cases h'
theorem sne2 {S : Store} {a b : Addr} {o u : MO} (h : S a = some o) (h' : S b = some u) (d : o ≠ u) : a ≠ b := by
  intro e; subst e; rw [h] at h'; exact d (Option.some.inj h')

def RepF {α : Type} (K : PySem.W.Frag) (H : Hp) : List (α × D) → List (α × V) → Prop := Paired fun p q => p.1 = q.1 ∧ Rep K H p.2 q.2
def ObjR (K : PySem.W.Frag) (H : Hp) (F : Own) (a : Addr) : MO → Prop
  | .lst ds => ∃ vs, H a = some (.lst vs) ∧ Reps K H ds vs
  | .dic kvs => ∃ vs, H a = some (.dK vs) ∧ RepF K H kvs vs
  | .dit kvs => ∃ vs, H a = some (.dT vs) ∧ RepF K H kvs vs
  | .ins C fs => ∃ dx vs, H a = some (.ins C dx vs) ∧ RepF K H fs vs
  | .box => ∃ (l : Addr) (z : Int) (ns : List Int), H a = some (.lst [.ref l, .int z]) ∧ H l = some (.lst (ns.map V.int)) ∧ F l = some a ∧ 0 ≤ z ∧ z < 2147483647 ∧ ns.length ≤ 63
  | .tab q => ∃ ps : Array Value, H a = some (.tbl ps) ∧ TriplesOk ps.toList ∧ ∀ (pos : Pos) (cv : Value), codeAmong pos ps.toList = some cv → ∃ c, cv = .ref c ∧ H c = some (CodeO c q)
  | .xdo fs => ∃ vs, H a = some (.xd vs) ∧ RepF K H fs vs
/-- no tuple, no code object -/
structure NoT (H : Hp) (a : Addr) : Prop where
  there : H a ≠ none
  tup : ∀ xs, ¬ Rd H a (.tup xs)
  code : ∀ q, H a ≠ some (CodeO a q)
  fz : ∀ o, H a ≠ some (.frz o (.own 0))
  fl : ∀ o xs, H a ≠ some (.frz o (.lst xs))
structure Mod (K : PySem.W.Frag) (H : Hp) (S : Store) (F : Own) : Prop where
  obj : ∀ a o, S a = some o → ObjR K H F a o
  hid : ∀ l a, F l = some a → S l = none ∧ NoT H l
theorem NoT.of {H : Hp} {a : Addr} {u : HO} (e : H a = some u) (h1 : ∀ xs, u ≠ .tup xs) (h2 : ∀ o v, u = .frz o v → False) (h3 : ∀ φ, u ≠ .ext φ) : NoT H a where
  there := by rw [e]; simp
  tup := fun xs r => by
    rcases r with r | ⟨o, r⟩
    · rw [e] at r; cases r; exact h1 _ rfl
    · rw [e] at r; cases r; exact h2 _ _ rfl
  code := fun q r => by rw [e] at r; exact h3 _ (Option.some.inj r)
  fz := fun o r => by rw [e] at r; cases r; exact h2 _ _ rfl
  fl := fun o xs r => by rw [e] at r; cases r; exact h2 _ _ rfl
theorem NoT.lst {H : Hp} {a : Addr} {vs : List V} (e : H a = some (.lst vs)) : NoT H a := NoT.of e (fun _ z => nomatch z) (fun _ _ z => nomatch z) (fun _ z => nomatch z)
theorem ObjR.mut {K : PySem.W.Frag} {H : Hp} {F : Own} {a : Addr} : ∀ {o : MO}, ObjR K H F a o → NoT H a
  | .lst _, ⟨_, e, _⟩ => NoT.lst e
  | .dic _, ⟨_, e, _⟩ => NoT.of e (fun _ z => nomatch z) (fun _ _ z => nomatch z) (fun _ z => nomatch z)
  | .dit _, ⟨_, e, _⟩ => NoT.of e (fun _ z => nomatch z) (fun _ _ z => nomatch z) (fun _ z => nomatch z)
  | .ins _ _, ⟨_, _, e, _⟩ => NoT.of e (fun _ z => nomatch z) (fun _ _ z => nomatch z) (fun _ z => nomatch z)
  | .box, ⟨_, _, _, e, _⟩ => NoT.lst e
  | .xdo _, ⟨_, e, _⟩ => NoT.of e (fun _ z => nomatch z) (fun _ _ z => nomatch z) (fun _ z => nomatch z)
  | .tab _, ⟨_, e, _⟩ => NoT.of e (fun _ z => nomatch z) (fun _ _ z => nomatch z) (fun _ z => nomatch z)

/-- the frame: what is tracked by H and not by S (nor hidden) stays -/
structure Fm (S : Store) (F : Own) (H : Hp) (S' : Store) (F' : Own) (H' : Hp) : Prop where
  keep : ∀ a o, H a = some o → S a = none → F a = none → H' a = some o
  st : ∀ a, S' a ≠ none → S a ≠ none ∨ F a ≠ none ∨ H a = none
  hd : ∀ a, F' a ≠ none → S a ≠ none ∨ F a ≠ none ∨ H a = none
theorem Fm.refl (S : Store) (F : Own) (H : Hp) : Fm S F H S F H := ⟨fun _ _ h _ _ => h, fun _ h => .inl h, fun _ h => .inr (.inl h)⟩
/-- none of what stands apart -/
def Nw (S : Store) (F : Own) (H : Hp) (a : Addr) : Prop := S a ≠ none ∨ F a ≠ none ∨ H a = none
theorem Fm.cl {S S1 : Store} {F F1 : Own} {H H1 : Hp} (a : Fm S F H S1 F1 H1) {c : Addr} {o : HO} (h1 : H c = some o) (h2 : S c = none) (h3 : F c = none) : H1 c = some o ∧ S1 c = none ∧ F1 c = none := by
  refine ⟨a.keep c o h1 h2 h3, ?_, ?_⟩
  · cases e : S1 c with
    | none => rfl
    | some u => rcases a.st c (by rw [e]; simp) with z | z | z
                · exact absurd h2 z
                · exact absurd h3 z
                · rw [h1] at z; cases z
  · cases e : F1 c with
    | none => rfl
    | some u => rcases a.hd c (by rw [e]; simp) with z | z | z
                · exact absurd h2 z
                · exact absurd h3 z
                · rw [h1] at z; cases z
theorem Nw.back {S S1 : Store} {F F1 : Own} {H H1 : Hp} (a : Fm S F H S1 F1 H1) {c : Addr} (h : Nw S1 F1 H1 c) : Nw S F H c := by
  by_cases e1 : S c = none
  · by_cases e2 : F c = none
    · cases e3 : H c with
      | none => exact .inr (.inr e3)
      | some o =>
        obtain ⟨k1, k2, k3⟩ := a.cl e3 e1 e2
        rcases h with z | z | z
        · exact absurd k2 z
        · exact absurd k3 z
        · rw [k1] at z; cases z
    · exact .inr (.inl e2)
  · exact .inl e1
theorem Fm.trans {S S1 S2 : Store} {F F1 F2 : Own} {H H1 H2 : Hp} (a : Fm S F H S1 F1 H1) (b : Fm S1 F1 H1 S2 F2 H2) : Fm S F H S2 F2 H2 := by
  refine ⟨fun c o h1 h2 h3 => ?_, fun c h => Nw.back a (b.st c h), fun c h => Nw.back a (b.hd c h)⟩
  obtain ⟨k1, k2, k3⟩ := a.cl h1 h2 h3
  exact b.keep c o k1 k2 k3

/-- what is never written stays: tuples, code objects, known objects -/
structure Kp (H H' : Hp) : Prop where
  tup : ∀ p xs, Rd H p (.tup xs) → Rd H' p (.tup xs)
  code : ∀ c q, H c = some (CodeO c q) → H' c = some (CodeO c q)
  fz : ∀ a o, Fz H a o → Fz H' a o
  fl : ∀ p o xs, H p = some (.frz o (.lst xs)) → H' p = some (.frz o (.lst xs))
theorem Kp.refl (H : Hp) : Kp H H := ⟨fun _ _ h => h, fun _ _ h => h, fun _ _ h => h, fun _ _ _ h => h⟩
theorem Kp.trans {H H1 H2 : Hp} (a : Kp H H1) (b : Kp H1 H2) : Kp H H2 := ⟨fun p xs h => b.tup p xs (a.tup p xs h), fun p xs h => b.code p xs (a.code p xs h), fun p xs h => b.fz p xs (a.fz p xs h), fun p o xs h => b.fl p o xs (a.fl p o xs h)⟩
theorem SqF.kp {K : PySem.W.Frag} {H H' : Hp} (k : Kp H H') {p : Addr} {xs : List V} (h : SqF K H p xs) : SqF K H' p xs := by
  rcases h with ⟨o, h⟩ | h
  · exact .inl ⟨o, k.fl _ _ _ h⟩
  · exact .inr h
theorem SqT.kp {K : PySem.W.Frag} {H H' : Hp} (k : Kp H H') {p : Addr} {xs : List V} (h : SqT K H p xs) : SqT K H' p xs := by
  rcases h with h | h
  · exact .inl (k.tup _ _ h)
  · exact .inr h
section
variable {K : PySem.W.Frag} {H H' : Hp} {S S' : Store} {F F' : Own}
theorem fix_free (m : Mod K H S F) {p : Addr} (n : ¬ NoT H p) : S p = none ∧ F p = none := by
  constructor
  · cases e : S p with
    | none => rfl
    | some o => exact absurd (m.obj p o e).mut n
  · cases e : F p with
    | none => rfl
    | some o => exact absurd (m.hid p o e).2 n
theorem Fm.kp (m : Mod K H S F) (f : Fm S F H S' F' H') : Kp H H' where
  tup := fun p xs h => by
    obtain ⟨a, b⟩ := fix_free m (p := p) (fun z => z.tup xs h)
    rcases h with h | ⟨o, h⟩
    · exact .inl (f.keep _ _ h a b)
    · exact .inr ⟨o, f.keep _ _ h a b⟩
  code := fun c q h => by
    obtain ⟨a, b⟩ := fix_free m (p := c) (fun z => z.code q h)
    exact f.keep _ _ h a b
  fz := fun c o h => by
    obtain ⟨a, b⟩ := fix_free m (p := c) (fun z => z.fz o h)
    exact f.keep _ _ h a b
  fl := fun c o xs h => by
    obtain ⟨a, b⟩ := fix_free m (p := c) (fun z => z.fl o xs h)
    exact f.keep _ _ h a b
theorem FnR.kp (k : Kp H H') {L : LF} {cells : List (Str × Addr)} {v : V} (h : FnR K H L cells v) : FnR K H' L cells v := by
  obtain ⟨f, c, doc, pm, ctv, dV, e, h1, h2, h3, inj⟩ := h
  refine ⟨f, c, doc, pm, ctv, dV, e, k.fz _ _ h1, k.code _ _ h2, ?_, inj⟩
  rcases h3 with h3 | ⟨h3, T, w, e2, h4⟩
  · exact .inl h3
  · exact .inr ⟨h3, T, w, e2, k.tup _ _ h4⟩
mutual
theorem Rep.kp (k : Kp H H') : ∀ (d : D) (v : V), Rep K H d v → Rep K H' d v
  | .non, _, h => h
  | .bl _, _, h => h
  | .int _, _, h => h
  | .str _, _, h => h
  | .ref _, _, h => h
  | .fn _ _, _, h => FnR.kp k h
  | .fnS _ _ vals, _, ⟨h, r⟩ => ⟨FnR.kp k h, RepC.kp k _ vals r⟩
  | .tup ds, _, ⟨p, vs, e, t, r⟩ => ⟨p, vs, e, SqT.kp k t, Reps.kp k ds vs r⟩
  | .rl ds, _, ⟨p, vs, e, t, r⟩ => ⟨p, vs, e, SqF.kp k t, Reps.kp k ds vs r⟩
theorem Reps.kp (k : Kp H H') : ∀ (ds : List D) (vs : List V), Reps K H ds vs → Reps K H' ds vs
  | [], _, h => h
  | d :: ds, _, ⟨v, vr, e, h, r⟩ => ⟨v, vr, e, Rep.kp k d v h, Reps.kp k ds vr r⟩
theorem RepC.kp (k : Kp H H') : ∀ (cells : List (Str × Addr)) (vals : List (Str × D)), RepC K H cells vals → RepC K H' cells vals
  | _, [], _ => True.intro
  | cells, (y, d) :: r, ⟨⟨c, o, u, v, h1, h2, h3, h4, h5⟩, hr⟩ => ⟨⟨c, o, u, v, h1, k.fz _ _ h2, h3, h4, Rep.kp k d v h5⟩, RepC.kp k cells r hr⟩
end
theorem RepF.kp {α : Type} (k : Kp H H') {fs : List (α × D)} {vs : List (α × V)} (h : RepF K H fs vs) : RepF K H' fs vs := by
  unfold RepF at h ⊢
  induction h with
  | nil => exact .nil
  | cons r t ih => exact .cons ⟨r.1, Rep.kp k _ _ r.2⟩ ih
theorem Reps.length : ∀ {ds : List D} {vs : List V}, Reps K H ds vs → ds.length = vs.length
  | [], _, h => by cases h; rfl
  | d :: ds, _, ⟨v, vr, e, _, r⟩ => by subst e; simp [Reps.length r]
theorem Reps.get : ∀ {ds : List D} {vs : List V} {i : Nat} {d : D}, Reps K H ds vs → ds[i]? = some d → ∃ v, vs[i]? = some v ∧ Rep K H d v
  | [], _, _, _, _, e => by simp at e
  | x :: ds, _, 0, d, ⟨v, vr, e1, h, r⟩, e => by subst e1; simp at e; subst e; exact ⟨v, rfl, h⟩
  | x :: ds, _, i + 1, d, ⟨v, vr, e1, h, r⟩, e => by
    subst e1
    obtain ⟨w, h1, h2⟩ := Reps.get (i := i) r (by simpa using e)
    exact ⟨w, by simpa using h1, h2⟩
theorem Reps.append : ∀ {ds es : List D} {vs ws : List V}, Reps K H ds vs → Reps K H es ws → Reps K H (ds ++ es) (vs ++ ws)
  | [], _, _, _, h, s => by cases h; exact s
  | d :: ds, _, _, _, ⟨v, vr, e, h, r⟩, s => by subst e; exact ⟨v, vr ++ _, rfl, h, Reps.append r s⟩
theorem Reps.set : ∀ {ds : List D} {vs : List V} {d : D} {v : V} (i : Nat), Rep K H d v → Reps K H ds vs → Reps K H (ds.set i d) (vs.set i v)
  | [], _, _, _, _, _, h => by cases h; exact rfl
  | d :: ds, _, _, _, 0, q, ⟨v, vr, e, h, r⟩ => by subst e; exact ⟨_, vr, rfl, q, r⟩
  | d :: ds, _, _, _, i + 1, q, ⟨v, vr, e, h, r⟩ => by subst e; exact ⟨v, _, rfl, h, Reps.set i q r⟩
theorem Reps.take : ∀ {ds : List D} {vs : List V} (n : Nat), Reps K H ds vs → Reps K H (ds.take n) (vs.take n)
  | _, _, 0, _ => rfl
  | [], _, _ + 1, h => by cases h; exact rfl
  | d :: ds, _, n + 1, ⟨v, vr, e, h, r⟩ => by subst e; exact ⟨v, _, rfl, h, Reps.take n r⟩
theorem Reps.drop : ∀ {ds : List D} {vs : List V} (n : Nat), Reps K H ds vs → Reps K H (ds.drop n) (vs.drop n)
  | _, _, 0, h => h
  | [], _, _ + 1, h => by cases h; exact rfl
  | d :: ds, _, n + 1, ⟨v, vr, e, h, r⟩ => by subst e; exact Reps.drop n r
theorem Reps.eraseIdx : ∀ {ds : List D} {vs : List V} (n : Nat), Reps K H ds vs → Reps K H (ds.eraseIdx n) (vs.eraseIdx n)
  | [], _, _, h => by cases h; exact rfl
  | d :: ds, _, 0, ⟨v, vr, e, h, r⟩ => by subst e; exact r
  | d :: ds, _, n + 1, ⟨v, vr, e, h, r⟩ => by subst e; exact ⟨v, _, rfl, h, Reps.eraseIdx n r⟩
theorem Reps.nil_iff {ds : List D} {vs : List V} (h : Reps K H ds vs) : vs = [] ↔ ds = [] := by
  cases ds with
  | nil => cases h; simp
  | cons d ds => obtain ⟨v, vr, e, _, _⟩ := h; subst e; simp
theorem Reps.one {d : D} {v : V} (h : Rep K H d v) : Reps K H [d] [v] := ⟨v, [], rfl, h, rfl⟩
theorem Reps.ints : ∀ {ns : List Int} {vs : List V}, Reps K H (ns.map D.int) vs → vs = ns.map V.int
  | [], _, h => h
  | n :: ns, _, ⟨v, vr, e, h, r⟩ => by subst e; cases h; rw [Reps.ints r]; rfl
theorem Reps.of_ints : ∀ (ns : List Int), Reps K H (ns.map D.int) (ns.map V.int)
  | [] => rfl
  | n :: ns => ⟨_, _, rfl, rfl, Reps.of_ints ns⟩
theorem Reps.bls : ∀ {ns : List Bool} {vs : List V}, Reps K H (ns.map D.bl) vs → vs = ns.map V.bl
  | [], _, h => h
  | n :: ns, _, ⟨v, vr, e, h, r⟩ => by subst e; cases h; rw [Reps.bls r]; rfl
theorem Reps.strs : ∀ {ns : List Str} {vs : List V}, Reps K H (ns.map D.str) vs → vs = ns.map V.str
  | [], _, h => h
  | n :: ns, _, ⟨v, vr, e, h, r⟩ => by subst e; cases h; rw [Reps.strs r]; rfl

/-! ### changes -/
/-- objects besides a keep their reading when H changes at a alone (or at fresh p) -/
theorem kp_upd {a : Addr} {o : HO} (h : H a = none ∨ NoT H a) : Kp H (upd H a o) := by
  have ne : ∀ {p : Addr}, H p ≠ none → ¬ NoT H p → p ≠ a := fun {p} n1 n2 e => by
    subst e
    rcases h with h | h
    · exact n1 h
    · exact n2 h
  refine ⟨fun p xs r => ?_, fun c q r => ?_, fun c o' r => ?_, fun c o' xs r => by rw [upd_ne (ne (by rw [r]; simp) (fun z => z.fl o' xs r))]; exact r⟩
  · have np : p ≠ a := ne (by rcases r with r | ⟨u, r⟩ <;> rw [r] <;> simp) (fun z => z.tup xs r)
    rcases r with r | ⟨u, r⟩
    · exact .inl (by rw [upd_ne np]; exact r)
    · exact .inr ⟨u, by rw [upd_ne np]; exact r⟩
  · rw [upd_ne (ne (by rw [r]; simp) (fun z => z.code q r))]; exact r
  · have r' : H c = some (.frz o' (.own 0)) := r
    show upd H a o c = some (.frz o' (.own 0))
    rw [upd_ne (ne (by rw [r']; simp) (fun z => z.fz o' r'))]; exact r'
theorem kp_new {a : Addr} {o : HO} (h : H a = none) : Kp H (upd H a o) := kp_upd (.inl h)
theorem kp_mut {a : Addr} {o : HO} (h : NoT H a) : Kp H (upd H a o) := kp_upd (.inr h)
theorem ObjR.other {a b : Addr} {o : HO} {u : MO} (k : Kp H (upd H a o)) (hb : b ≠ a) (hf : F a ≠ some b) (h : ObjR K H F b u) : ObjR K (upd H a o) F b u := by
  cases u with
  | lst ds => obtain ⟨vs, e, r⟩ := h; exact ⟨vs, by rw [upd_ne hb]; exact e, Reps.kp k _ _ r⟩
  | dic ds => obtain ⟨vs, e, r⟩ := h; exact ⟨vs, by rw [upd_ne hb]; exact e, r.kp k⟩
  | dit ds => obtain ⟨vs, e, r⟩ := h; exact ⟨vs, by rw [upd_ne hb]; exact e, r.kp k⟩
  | ins C fs => obtain ⟨dx, vs, e, r⟩ := h; exact ⟨dx, vs, by rw [upd_ne hb]; exact e, r.kp k⟩
  | box =>
    obtain ⟨l, z, ns, e1, e2, e3, r⟩ := h
    have nl : l ≠ a := fun e => hf (e ▸ e3)
    exact ⟨l, z, ns, by rw [upd_ne hb]; exact e1, by rw [upd_ne nl]; exact e2, e3, r⟩
  | xdo fs => obtain ⟨vs, e, r⟩ := h; exact ⟨vs, by rw [upd_ne hb]; exact e, r.kp k⟩
  | tab q =>
    obtain ⟨ps, e, r1, r2⟩ := h
    refine ⟨ps, by rw [upd_ne hb]; exact e, r1, fun pos cv hc => ?_⟩
    obtain ⟨c, e1, e2⟩ := r2 pos cv hc
    exact ⟨c, e1, k.code _ _ e2⟩
/-- an object of the store is changed -/
theorem NoT.upd {a l : Addr} {o : HO} (h : NoT H l) (nl : l ≠ a) : NoT (upd H a o) l where
  there := by rw [upd_ne nl]; exact h.there
  tup := fun xs r => h.tup xs (by
    rcases r with r | ⟨u, r⟩
    · exact .inl (by rw [upd_ne nl] at r; exact r)
    · exact .inr ⟨u, by rw [upd_ne nl] at r; exact r⟩)
  code := fun q r => h.code q (by rw [upd_ne nl] at r; exact r)
  fz := fun q r => h.fz q (by rw [upd_ne nl] at r; exact r)
  fl := fun q xs r => h.fl q xs (by rw [upd_ne nl] at r; exact r)
theorem Mod.put (m : Mod K H S F) {a : Addr} {u u' : MO} {o : HO} (e : S a = some u) (new : ObjR K (upd H a o) F a u') : Mod K (upd H a o) (sup S a u') F := by
  have ma := (m.obj a u e).mut
  have fa : F a = none := by
    cases q : F a with
    | none => rfl
    | some b => have := (m.hid a b q).1; rw [e] at this; cases this
  refine ⟨fun b v q => ?_, fun l b q => ?_⟩
  · by_cases hb : b = a
    · subst hb; rw [sup_same] at q; cases q; exact new
    · rw [sup_ne hb] at q
      exact (m.obj b v q).other (kp_mut ma) hb (by rw [fa]; simp)
  · obtain ⟨h1, h2⟩ := m.hid l b q
    have nl : l ≠ a := fun z => by rw [z, fa] at q; cases q
    exact ⟨by rw [sup_ne nl]; exact h1, h2.upd nl⟩
theorem Fm.put {a : Addr} {u u' : MO} {o : HO} (e : S a = some u) : Fm S F H (sup S a u') F (upd H a o) := by
  refine ⟨fun b v h1 h2 _ => ?_, fun b h => ?_, fun b h => .inr (.inl h)⟩
  · rw [upd_ne (fun z => by rw [z, e] at h2; cases h2)]; exact h1
  · by_cases hb : b = a
    · subst hb; exact .inl (by rw [e]; simp)
    · rw [sup_ne hb] at h; exact .inl h
theorem Mod.fresh (m : Mod K H S F) {p : Addr} (h : H p = none) : S p = none ∧ F p = none := by
  constructor
  · cases e : S p with
    | none => rfl
    | some o => exact absurd h (m.obj p o e).mut.there
  · cases e : F p with
    | none => rfl
    | some o => exact absurd h (m.hid p o e).2.there
/-- a new object, not (yet) in the store -/
theorem Mod.laid (m : Mod K H S F) {p : Addr} {o : HO} (h : H p = none) : Mod K (upd H p o) S F := by
  obtain ⟨hs, hf⟩ := m.fresh h
  refine ⟨fun b v q => (m.obj b v q).other (kp_new h) (fun z => by rw [z, hs] at q; cases q) (by rw [hf]; simp), fun l b q => ?_⟩
  obtain ⟨h1, h2⟩ := m.hid l b q
  have nl : l ≠ p := fun z => by rw [z, hf] at q; cases q
  exact ⟨h1, h2.upd nl⟩
theorem Fm.laid {p : Addr} {o : HO} (h : H p = none) : Fm S F H S F (upd H p o) :=
  ⟨fun b v h1 _ _ => by rw [upd_ne (ne_of_none h1 h)]; exact h1, fun _ h => .inl h, fun _ h => .inr (.inl h)⟩
/-- an object that stands apart comes into the store -/
theorem Mod.adopt (m : Mod K H S F) {p : Addr} {u : MO} (hs : S p = none) (hf : F p = none) (new : ObjR K H F p u) : Mod K H (sup S p u) F := by
  refine ⟨fun b v q => ?_, fun l b q => ?_⟩
  · by_cases hb : b = p
    · subst hb; rw [sup_same] at q; cases q; exact new
    · rw [sup_ne hb] at q; exact m.obj b v q
  · obtain ⟨h1, h2⟩ := m.hid l b q
    have nl : l ≠ p := fun z => by rw [z, hf] at q; cases q
    exact ⟨by rw [sup_ne nl]; exact h1, h2⟩
/-- what is not asked for any more may be forgotten -/
theorem Fm.adopt {p : Addr} {u : MO} (f : Fm S F H S' F' H') (n : Nw S F H p) : Fm S F H (sup S' p u) F' H' :=
  ⟨f.keep, fun c h => by
    by_cases hc : c = p
    · subst hc; exact n
    · rw [sup_ne hc] at h; exact f.st c h, f.hd⟩
/-- what came new may change again -/
theorem Fm.over {p : Addr} {o : HO} (f : Fm S F H S' F' H') (n : Nw S F H p) : Fm S F H S' F' (upd H' p o) :=
  ⟨fun a u h1 h2 h3 => by
    have ne : a ≠ p := fun z => by
      subst z
      rcases n with n | n | n
      · exact n h2
      · exact n h3
      · rw [h1] at n; cases n
    rw [upd_ne ne]; exact f.keep a u h1 h2 h3, f.st, f.hd⟩
theorem Fm.less {S'' : Store} (f : Fm S F H S' F' H') (h : ∀ a o, S'' a = some o → S' a = some o) : Fm S F H S'' F' H' :=
  ⟨f.keep, fun c q => f.st c (by
    cases e : S'' c with
    | none => exact absurd e q
    | some o => rw [h c o e]; simp), f.hd⟩
theorem Mod.less (m : Mod K H S F) (h : ∀ a o, S' a = some o → S a = some o) : Mod K H S' F := by
  refine ⟨fun a o e => m.obj a o (h a o e), fun l a e => ⟨?_, (m.hid l a e).2⟩⟩
  cases q : S' l with
  | none => rfl
  | some o =>
    have z := (m.hid l a e).1
    rw [h l o q] at z
    cases z
end
end DL
/-! ## DL2 -/
namespace DL
open PySem PySem.Spec PyProof.Rows L2

abbrev DSt := List (Option D)
/-- an exception: its class, its dict's address -/
structure ExcD where
  name : Str
  at_ : Option Addr
abbrev XE := ExcD → Store → Prop
abbrev DK := D → Store → Prop
abbrev DE := DSt → Store → DK → XE → Prop
abbrev DT := DSt → Store → (Bool → Store → Prop) → XE → Prop
abbrev DA := DSt → Store → (List D → Store → Prop) → XE → Prop
abbrev XF : XE := fun _ _ => False
structure SlR (K : PySem.W.Frag) (H : Hp) (σD : DSt) (σ : L2.St) : Prop where
  len : σD.length = σ.length
  at_ : ∀ (i : Nat) (d : D), σD[i]? = some (some d) → ∃ v, σ[i]? = some (some v) ∧ Rep K H d v
def ExcR (K : PySem.W.Frag) (mg : Str → Option Value) (H : Hp) (e : ExcD) (cls : Value) (d : Option Addr) : Prop := mg e.name = some cls ∧ e.at_ = d
section
variable {K : PySem.W.Frag} {H H' : Hp} {mg : Str → Option Value}
theorem SlR.kp {σD : DSt} {σ : L2.St} (k : Kp H H') (h : SlR K H σD σ) : SlR K H' σD σ := ⟨h.len, fun i d e => by
  obtain ⟨v, h1, h2⟩ := h.at_ i d e
  exact ⟨v, h1, Rep.kp k _ _ h2⟩⟩
theorem SlR.set {σD : DSt} {σ : L2.St} {d : D} {v : V} (h : SlR K H σD σ) (i : Nat) (r : Rep K H d v) : SlR K H (σD.set i (some d)) (σ.set i (some v)) := by
  refine ⟨by rw [List.length_set, List.length_set]; exact h.len, fun j e q => ?_⟩
  by_cases hj : i = j
  · subst hj
    by_cases hl : i < σD.length
    · rw [List.getElem?_set_self hl] at q
      cases q
      exact ⟨v, List.getElem?_set_self (by rw [← h.len]; exact hl), r⟩
    · rw [List.getElem?_eq_none (by rw [List.length_set]; omega)] at q; cases q
  · rw [List.getElem?_set_ne hj] at q ⊢
    exact h.at_ j e q
end

/-- what follows a value -/
def Post (K : PySem.W.Frag) (S : Store) (F : Own) (H : Hp) (QD : DK) (Q : VK) : Prop :=
  ∀ v H' d S' F', Rep K H' d v → Mod K H' S' F' → Fm S F H S' F' H' → QD d S' → Q v H'
def PostB (K : PySem.W.Frag) (S : Store) (F : Own) (H : Hp) (QD : Bool → Store → Prop) (Q : Bool → Hp → Prop) : Prop :=
  ∀ b H' S' F', Mod K H' S' F' → Fm S F H S' F' H' → QD b S' → Q b H'
def PostA (K : PySem.W.Frag) (S : Store) (F : Own) (H : Hp) (QD : List D → Store → Prop) (Q : List V → Hp → Prop) : Prop :=
  ∀ vs H' ds S' F', Reps K H' ds vs → Mod K H' S' F' → Fm S F H S' F' H' → QD ds S' → Q vs H'
def PostX (K : PySem.W.Frag) (mg : Str → Option Value) (S : Store) (F : Own) (H : Hp) (ED : XE) (W : Value → Option Addr → Hp → Prop) : Prop :=
  ∀ cls dd H' e S' F', ExcR K mg H' e cls dd → Mod K H' S' F' → Fm S F H S' F' H' → ED e S' → W cls dd H'
/-- a new list, by value: its address is nobody's -/
def PostL (K : PySem.W.Frag) (S : Store) (F : Own) (H : Hp) (QD : List D → Store → Prop) (Q : VK) : Prop :=
  ∀ p vs H' ds S' F', H' p = some (.lst vs) → S' p = none → F' p = none → Nw S F H p → Reps K H' ds vs → Mod K H' S' F' → Fm S F H S' F' H' → QD ds S' → Q (.ref p) H'

def up (K : PySem.W.Frag) (mg : Str → Option Value) (W : WX) (w : DE) : TE := fun σ H Q => ∃ σD S F QD ED, SlR K H σD σ ∧ Mod K H S F ∧ w σD S QD ED ∧ Post K S F H QD Q ∧ PostX K mg S F H ED (fun c d H' => W c d σ H')
def upT (K : PySem.W.Frag) (mg : Str → Option Value) (W : WX) (w : DT) : TT := fun σ H Q => ∃ σD S F QD ED, SlR K H σD σ ∧ Mod K H S F ∧ w σD S QD ED ∧ PostB K S F H QD Q ∧ PostX K mg S F H ED (fun c d H' => W c d σ H')
def upA (K : PySem.W.Frag) (mg : Str → Option Value) (W : WX) (w : DA) : TA := fun σ H Q => ∃ σD S F QD ED, SlR K H σD σ ∧ Mod K H S F ∧ w σD S QD ED ∧ PostA K S F H QD Q ∧ PostX K mg S F H ED (fun c d H' => W c d σ H')
/-- a list made by value -/
def upL (K : PySem.W.Frag) (mg : Str → Option Value) (W : WX) (w : DA) : TE := fun σ H Q => ∃ σD S F QD ED, SlR K H σD σ ∧ Mod K H S F ∧ w σD S QD ED ∧ PostL K S F H QD Q ∧ PostX K mg S F H ED (fun c d H' => W c d σ H')

theorem PE.imp {X : Cx} {e : Expr} {t t' : TE} (h : PE X e t) (k : ∀ σ H Q, t' σ H Q → t σ H Q) : PE X e t' := ⟨fun pins s σ H Q I q => h.run pins s σ H Q I (k σ H Q q)⟩
theorem PT.imp {X : Cx} {e : Expr} {t t' : TT} (h : PT X e t) (k : ∀ σ H Q, t' σ H Q → t σ H Q) : PT X e t' := ⟨fun pins s σ H Q I q => h.run pins s σ H Q I (k σ H Q q)⟩
theorem PW.imp {X : Cx} {e : Expr} {t t' : TT} (h : PW X e t) (k : ∀ σ H Q, t' σ H Q → t σ H Q) : PW X e t' := ⟨fun wh pins s σ H Q I q => h.run wh pins s σ H Q I (k σ H Q q)⟩
theorem PA.imp {X : Cx} {es : List Expr} {t t' : TA} (h : PA X es t) (k : ∀ σ H Q, t' σ H Q → t σ H Q) : PA X es t' := ⟨fun pos pins s σ H Q I q => h.run pos pins s σ H Q I (k σ H Q q)⟩
theorem PS.imp {X : Cx} {st : Stmt} {t t' : TS} (h : PS X st t) (k : ∀ D σ H, t' D σ H → t D σ H) : PS X st t' := ⟨fun pins s σ H D I q => h.run pins s σ H D I (k D σ H q)⟩
theorem PSs.imp {X : Cx} {st : List Stmt} {t t' : TS} (h : PSs X st t) (k : ∀ D σ H, t' D σ H → t D σ H) : PSs X st t' := ⟨fun pins s σ H D I q => h.run pins s σ H D I (k D σ H q)⟩

section
variable {K : PySem.W.Frag} {mg : Str → Option Value} {W : WX} {H H1 : Hp} {S S1 : Store} {F F1 : Own} {QD : DK} {ED : XE} {Q : VK} {Wx : Value → Option Addr → Hp → Prop}
theorem Post.after (f : Fm S F H S1 F1 H1) (k : Post K S F H QD Q) : Post K S1 F1 H1 QD Q := fun v H' d S' F' r m f' q => k v H' d S' F' r m (f.trans f') q
theorem PostL.after {QD : List D → Store → Prop} (f : Fm S F H S1 F1 H1) (k : PostL K S F H QD Q) : PostL K S1 F1 H1 QD Q := fun p vs H' ds S' F' h1 h2 h3 h4 r m' f' q =>
  k p vs H' ds S' F' h1 h2 h3 (h4.back f) r m' (f.trans f') q
theorem PostB.after {QD : Bool → Store → Prop} {Q : Bool → Hp → Prop} (f : Fm S F H S1 F1 H1) (k : PostB K S F H QD Q) : PostB K S1 F1 H1 QD Q := fun b H' S' F' m f' q => k b H' S' F' m (f.trans f') q
theorem PostA.after {QD : List D → Store → Prop} {Q : List V → Hp → Prop} (f : Fm S F H S1 F1 H1) (k : PostA K S F H QD Q) : PostA K S1 F1 H1 QD Q := fun vs H' ds S' F' r m f' q => k vs H' ds S' F' r m (f.trans f') q
theorem PostX.after (f : Fm S F H S1 F1 H1) (k : PostX K mg S F H ED Wx) : PostX K mg S1 F1 H1 ED Wx := fun cls dd H' e S' F' r m f' q => k cls dd H' e S' F' r m (f.trans f') q
end
end DL
/-! ## DL3 -/
namespace DL
open PySem PySem.Spec PyProof.Rows L2

abbrev PEd (X : Cx) (W : WX) (e : Expr) (w : DE) : Prop := PE X e (up X.K X.mg W w)
abbrev PTd (X : Cx) (W : WX) (e : Expr) (w : DT) : Prop := PT X e (upT X.K X.mg W w)
abbrev PWd (X : Cx) (W : WX) (e : Expr) (w : DT) : Prop := PW X e (upT X.K X.mg W w)
abbrev PAd (X : Cx) (W : WX) (es : List Expr) (w : DA) : Prop := PA X es (upA X.K X.mg W w)
abbrev PLd (X : Cx) (W : WX) (e : Expr) (w : DA) : Prop := PE X e (upL X.K X.mg W w)
/-- a list that is read, by value -/
def PostV (K : PySem.W.Frag) (S : Store) (F : Own) (H : Hp) (QD : List D → Store → Prop) (Q : VK) : Prop :=
  ∀ p vs H' ds S' F', SqL K H' p vs → Reps K H' ds vs → Mod K H' S' F' → Fm S F H S' F' H' → QD ds S' → Q (.ref p) H'
def upV (K : PySem.W.Frag) (mg : Str → Option Value) (W : WX) (w : DA) : TE := fun σ H Q => ∃ σD S F QD ED, SlR K H σD σ ∧ Mod K H S F ∧ w σD S QD ED ∧ PostV K S F H QD Q ∧ PostX K mg S F H ED (fun c d H' => W c d σ H')
abbrev PVd (X : Cx) (W : WX) (e : Expr) (w : DA) : Prop := PE X e (upV X.K X.mg W w)

/-! ### predicate transformers -/
def wVar (i : Nat) : DE := fun σ S Q _ => match σ[i]? with | some (some d) => Q d S | _ => False
def wC (d : D) : DE := fun _ S Q _ => Q d S
abbrev RD2 := D → D → Store → DK → Prop
def wOp (r : RD2) (wa wb : DE) : DE := fun σ S Q E => wa σ S (fun x S1 => wb σ S1 (fun y S2 => r x y S2 Q) E) E
def wUn (r : D → Store → DK → Prop) (wa : DE) : DE := fun σ S Q E => wa σ S (fun x S1 => r x S1 Q) E
def isB (d : D) (Q : Bool → Store → Prop) (S : Store) : Prop := match d with | .bl b => Q b S | _ => False
theorem isB_e {d : D} {Q : Bool → Store → Prop} {S : Store} (h : isB d Q S) : ∃ b, d = .bl b ∧ Q b S := by
  cases d with
  | bl b => exact ⟨b, rfl, h⟩
  | _ => exact h.elim
def wTst (w : DE) : DT := fun σ S Q E => w σ S (fun d S' => isB d Q S') E
def wChain (r r' : RD2) (wa wb wc : DE) : DE := fun σ S Q E => wa σ S (fun x S1 => wb σ S1 (fun y S2 => r x y S2 (fun z S3 => isB z (fun k S3 => if k = true then wc σ S3 (fun u S4 => r' y u S4 Q) E else Q (.bl false) S3) S3)) E) E
def wAnd (t u : DT) : DT := fun σ S Q E => t σ S (fun b S1 => if b = true then u σ S1 Q E else Q false S1) E
def wOr (t u : DT) : DT := fun σ S Q E => t σ S (fun b S1 => if b = true then Q true S1 else u σ S1 Q E) E
def wNot (t : DT) : DT := fun σ S Q E => t σ S (fun b S1 => Q (!b) S1) E
def wAndV (a b : DE) : DE := fun σ S Q E => a σ S (fun x S1 => isB x (fun c S1 => if c = true then b σ S1 Q E else Q (.bl false) S1) S1) E
def wOrV (a b : DE) : DE := fun σ S Q E => a σ S (fun x S1 => isB x (fun c S1 => if c = true then Q (.bl true) S1 else b σ S1 Q E) S1) E
def wNotV (a : DE) : DE := fun σ S Q E => a σ S (fun x S1 => isB x (fun c S1 => Q (.bl (!c)) S1) S1) E
def wIfE (t : DT) (a b : DE) : DE := fun σ S Q E => t σ S (fun c S1 => if c = true then a σ S1 Q E else b σ S1 Q E) E
def wNil : DA := fun _ S Q _ => Q [] S
def wCons (a : DE) (r : DA) : DA := fun σ S Q E => a σ S (fun x S1 => r σ S1 (fun xs S2 => Q (x :: xs) S2) E) E
def wTup (a : DA) : DE := fun σ S Q E => a σ S (fun xs S1 => xs.length ≤ sizeLine ∧ Q (.tup xs) S1) E
def wLst (a : DA) : DA := fun σ S Q E => a σ S (fun xs S1 => xs.length ≤ sizeLine ∧ Q xs S1) E
/-- a list made by value comes into the store -/
def wNew (a : DA) : DE := fun σ S Q E => a σ S (fun xs S1 => ∀ p, S1 p = none → Q (.ref p) (sup S1 p (.lst xs))) E
def asL (d : D) (S : Store) (Q : List D → Store → Prop) : Prop := match d with | .ref a => (match S a with | some (.lst ds) => Q ds S | _ => False) | _ => False
/-- a list of the store, by value -/
theorem asL_e {d : D} {S : Store} {Q : List D → Store → Prop} (h : asL d S Q) : ∃ a ds, d = .ref a ∧ S a = some (.lst ds) ∧ Q ds S := by
  unfold asL at h
  split at h
  · rename_i a
    split at h
    · rename_i ds e
      exact ⟨a, ds, rfl, e, h⟩
    · exact h.elim
  · exact h.elim
def wDer (a : DE) : DA := fun σ S Q E => a σ S (fun d S1 => asL d S1 Q) E
def wVL (a : DA) (r : List D → Store → DK → Prop) : DE := fun σ S Q E => a σ S (fun xs S1 => r xs S1 Q) E
def wVLL (a : DA) (r : List D → Store → (List D → Store → Prop) → Prop) : DA := fun σ S Q E => a σ S (fun xs S1 => r xs S1 Q) E

/-! ### by values -/
def LR2 (K : PySem.W.Frag) (r : R2) (rD : RD2) : Prop := ∀ x y H d e S F QD Q, Rep K H d x → Rep K H e y → Mod K H S F → rD d e S QD → Post K S F H QD Q → r x y H Q
def LR1 (K : PySem.W.Frag) (r : V → Hp → VK → Prop) (rD : D → Store → DK → Prop) : Prop := ∀ x H d S F QD Q, Rep K H d x → Mod K H S F → rD d S QD → Post K S F H QD Q → r x H Q
def LCV (K : PySem.W.Frag) (r : List V → Hp → VK → Prop) (rD : List D → Store → DK → Prop) : Prop := ∀ p vs H ds S F QD Q, SqL K H p vs → Reps K H ds vs → Mod K H S F → rD ds S QD → Post K S F H QD Q → r [.ref p] H Q
def LCL (K : PySem.W.Frag) (r : List V → Hp → VK → Prop) (rD : List D → Store → (List D → Store → Prop) → Prop) : Prop := ∀ p vs H ds S F QD Q, SqL K H p vs → Reps K H ds vs → Mod K H S F → rD ds S QD → PostL K S F H QD Q → r [.ref p] H Q
def LCA (K : PySem.W.Frag) (r : List V → Hp → VK → Prop) (rD : List D → Store → DK → Prop) : Prop := ∀ vs H ds S F QD Q, Reps K H ds vs → Mod K H S F → rD ds S QD → Post K S F H QD Q → r vs H Q

section
variable {X : Cx} {W : WX} {a b c e : Expr} {es : List Expr} {wa wb wc w : DE} {wt wu : DT} {ws : DA} {pos : Pos} {rest : List Expr}

theorem dpe_var {i : Nat} {x : Str} {pos : Pos} (hN : X.N[i]? = some x) (hv : Vis X.env.scope x) (hd : (x == ("__debug__" : Str)) = false := by decide) (hcd : (x == ("__classdict__" : Str)) = false := by decide) : PEd X W (.Name x pos) (wVar i) :=
  PE.imp (pe_var hN hv hd hcd) fun σ H Q ⟨σD, S, F, QD, ED, sl, m, h, k, _⟩ => by
    unfold wVar at h
    split at h
    · rename_i d e
      obtain ⟨v, h1, h2⟩ := sl.at_ i d e
      exact ⟨v, h1, k v H d S F h2 m (Fm.refl S F H) h⟩
    · exact h.elim
theorem dv (i : Nat) {x : Str} {pos : Pos} (hN : X.N[i]? = some x := by rfl) (hv : Vis X.env.scope x := by first | exact Or.inl rfl | exact Or.inr (Or.inl rfl) | exact Or.inr (Or.inr rfl)) (hd : (x == ("__debug__" : Str)) = false := by decide)
    (hcd : (x == ("__classdict__" : Str)) = false := by decide) : PEd X W (.Name x pos) (wVar i) := dpe_var hN hv hd hcd
theorem dpe_c {v : V} {d : D} (h : PE X e (tC v)) (r : ∀ H, Rep X.K H d v) : PEd X W e (wC d) :=
  PE.imp h fun σ H Q ⟨σD, S, F, QD, ED, sl, m, h, k, _⟩ => k v H d S F (r H) m (Fm.refl S F H) h
theorem dpe_int {i : Int} {j pos} : PEd X W (.Constant (.int i) j pos) (wC (.int i)) := dpe_c pe_int fun _ => rfl
theorem dpe_bl {i : Bool} {j pos} : PEd X W (.Constant (.bool i) j pos) (wC (.bl i)) := dpe_c pe_bl fun _ => rfl
theorem dpe_non {j pos} : PEd X W (.Constant .none j pos) (wC .non) := dpe_c pe_non fun _ => rfl
theorem dpe_str {i : Str} {j pos} : PEd X W (.Constant (.str i) j pos) (wC (.str i)) := dpe_c pe_str fun _ => rfl
/-- a module's constant -/
theorem dpe_glob {x : Str} {v : V} {d : D} {u : Value} {pos : Pos} (hg : Gl X x) (hm : X.mg x = some u) (r : RelV v u) (rd : ∀ H, Rep X.K H d v) (hd : (x == ("__debug__" : Str)) = false := by decide) : PEd X W (.Name x pos) (wC d) := dpe_c (pe_glob hg hm r hd) rd

theorem op_imp {r : R2} {rD : RD2} (hl : LR2 X.K r rD) {σ : L2.St} {H : Hp} {Q : VK} (h : up X.K X.mg W (wOp rD wa wb) σ H Q) : tOp r (up X.K X.mg W wa) (up X.K X.mg W wb) σ H Q := by
  obtain ⟨σD, S, F, QD, ED, sl, m, h, k, kx⟩ := h
  refine ⟨σD, S, F, _, ED, sl, m, h, fun v H1 d S1 F1 r1 m1 f1 h1 => ?_, kx⟩
  refine ⟨σD, S1, F1, _, ED, sl.kp (f1.kp m), m1, h1, fun v2 H2 d2 S2 F2 r2 m2 f2 h2 => ?_, kx.after f1⟩
  exact hl v v2 H2 d d2 S2 F2 QD Q (Rep.kp (f2.kp m1) _ _ r1) r2 m2 h2 (k.after (f1.trans f2))
theorem dpe_op {op : Operator} {r : R2} {rD : RD2} (ho : OpR X (binaryOp op) r) (hl : LR2 X.K r rD) (ha : PEd X W a wa) (hb : PEd X W b wb) : PEd X W (.BinOp a op b pos) (wOp rD wa wb) := PE.imp (pe_op ho ha hb) fun _ _ _ h => op_imp hl h
theorem dpe_un {op : UnaryOp} {r : V → Hp → VK → Prop} {rD : D → Store → DK → Prop} (ho : UnR X (unaryOp op) r) (hl : LR1 X.K r rD) (ha : PEd X W a wa) : PEd X W (.UnaryOp op a pos) (wUn rD wa) :=
  PE.imp (pe_un ho ha) fun σ H Q ⟨σD, S, F, QD, ED, sl, m, h, k, kx⟩ =>
    ⟨σD, S, F, _, ED, sl, m, h, fun v H1 d S1 F1 r1 m1 f1 h1 => hl v H1 d S1 F1 QD Q r1 m1 h1 (k.after f1), kx⟩
theorem dpe_cmp {op : CmpOp} {r : R2} {rD : RD2} (ho : OpR X (compareOp op) r) (hl : LR2 X.K r rD) (ha : PEd X W a wa) (hb : PEd X W b wb) (hm : behindInMarks op b = false) : PEd X W (.Compare a [op] [b] pos) (wOp rD wa wb) := PE.imp (pe_cmpR ho ha hb hm) fun _ _ _ h => op_imp hl h
theorem tst_imp {σ : L2.St} {H : Hp} {Q : Bool → Hp → Prop} (h : upT X.K X.mg W (wTst w) σ H Q) : up X.K X.mg W w σ H (fun x H' => ∃ k, x = .bl k ∧ Q k H') := by
  obtain ⟨σD, S, F, QD, ED, sl, m, h, k, kx⟩ := h
  refine ⟨σD, S, F, _, ED, sl, m, h, fun v H1 d S1 F1 r1 m1 f1 h1 => ?_, kx⟩
  try dsimp only at h1
  obtain ⟨b, rfl, g1⟩ := isB_e h1
  exact ⟨b, r1, k b H1 S1 F1 m1 f1 g1⟩
theorem dpt_cmp {op : CmpOp} {r : R2} {rD : RD2} (ho : OpR X (compareOp op) r) (hl : LR2 X.K r rD) (ha : PEd X W a wa) (hb : PEd X W b wb) (hm : behindInMarks op b = false) : PTd X W (.Compare a [op] [b] pos) (wTst (wOp rD wa wb)) :=
  PT.imp (pt_cmpR ho ha hb hm) fun _ _ _ h => op_imp hl (tst_imp h)
theorem dpt_val (h : PEd X W e w) (he : ∀ whole, isTrue e X.env whole = (do let v ← whole; standAt e.pos; holding [v] (truthy v)) := by intro _; rfl) : PTd X W e (wTst w) :=
  PT.imp (pt_val h he) fun _ _ _ h => tst_imp h
theorem chain_imp {r r' : R2} {rD rD' : RD2} (hl : LR2 X.K r rD) (hl' : LR2 X.K r' rD') {σ : L2.St} {H : Hp} {Q : VK} (h : up X.K X.mg W (wChain rD rD' wa wb wc) σ H Q) : tChain r r' (up X.K X.mg W wa) (up X.K X.mg W wb) (up X.K X.mg W wc) σ H Q := by
  obtain ⟨σD, S, F, QD, ED, sl, m, h, k, kx⟩ := h
  refine ⟨σD, S, F, _, ED, sl, m, h, fun v H1 d S1 F1 r1 m1 f1 h1 => ?_, kx⟩
  refine ⟨σD, S1, F1, _, ED, sl.kp (f1.kp m), m1, h1, fun v2 H2 d2 S2 F2 r2 m2 f2 h2 => ?_, kx.after f1⟩
  refine hl v v2 H2 d d2 S2 F2 _ _ (Rep.kp (f2.kp m1) _ _ r1) r2 m2 h2 fun v3 H3 d3 S3 F3 r3 m3 f3 h3 => ?_
  obtain ⟨b, rfl, g3⟩ := isB_e (d := d3) (S := S3) (Q := fun k S3 => if k = true then wc σD S3 (fun u S4 => rD' d2 u S4 QD) ED else QD (.bl false) S3) h3
  have f123 := (f1.trans f2).trans f3
  refine ⟨b, r3, ?_⟩
  cases b with
  | false => rw [if_neg Bool.false_ne_true] at g3 ⊢; exact k (.bl false) H3 (.bl false) S3 F3 rfl m3 f123 g3
  | true =>
    rw [if_pos rfl] at g3 ⊢
    refine ⟨σD, S3, F3, _, ED, sl.kp (f123.kp m), m3, g3, fun v4 H4 d4 S4 F4 r4 m4 f4 h4 => ?_, kx.after f123⟩
    exact hl' v2 v4 H4 d2 d4 S4 F4 QD Q (Rep.kp ((f3.trans f4).kp m2) _ _ r2) r4 m4 h4 (k.after (f123.trans f4))
theorem dpe_chain {op op' : CmpOp} {r r' : R2} {rD rD' : RD2} (ho : OpR X (compareOp op) r) (ho' : OpR X (compareOp op') r') (hl : LR2 X.K r rD) (hl' : LR2 X.K r' rD') (ha : PEd X W a wa) (hb : PEd X W b wb) (hc : PEd X W c wc)
    (hm : lastMarks [op, op'] [b, c] = false := by with_unfolding_all rfl) : PEd X W (.Compare a [op, op'] [b, c] pos) (wChain rD rD' wa wb wc) := PE.imp (pe_chain ho ho' ha hb hc hm) fun _ _ _ h => chain_imp hl hl' h
theorem dpt_chain {op op' : CmpOp} {r r' : R2} {rD rD' : RD2} (ho : OpR X (compareOp op) r) (ho' : OpR X (compareOp op') r') (hl : LR2 X.K r rD) (hl' : LR2 X.K r' rD') (ha : PEd X W a wa) (hb : PEd X W b wb) (hc : PEd X W c wc)
    (hm : lastMarks [op, op'] [b, c] = false := by with_unfolding_all rfl) : PTd X W (.Compare a [op, op'] [b, c] pos) (wTst (wChain rD rD' wa wb wc)) := PT.imp (pt_chain ho ho' ha hb hc hm) fun _ _ _ h => chain_imp hl hl' (tst_imp h)

theorem dpw_pt (h : PWd X W e wt) : PTd X W e wt := h.pt
theorem dpw_and1 (ha : PTd X W a wt) : PWd X W (.BoolOp .And [a] pos) wt := pw_and1 ha
theorem dpw_or1 (ha : PTd X W a wt) : PWd X W (.BoolOp .Or [a] pos) wt := pw_or1 ha
theorem dpw_and (ha : PTd X W a wt) (hb : PWd X W (.BoolOp .And (b :: rest) pos) wu) : PWd X W (.BoolOp .And (a :: b :: rest) pos) (wAnd wt wu) :=
  PW.imp (pw_and ha hb) fun σ H Q ⟨σD, S, F, QD, ED, sl, m, h, k, kx⟩ => by
    refine ⟨σD, S, F, _, ED, sl, m, h, fun b H1 S1 F1 m1 f1 h1 => ?_, kx⟩
    cases b with
    | true => rw [if_pos rfl] at h1 ⊢; exact ⟨σD, S1, F1, QD, ED, sl.kp (f1.kp m), m1, h1, k.after f1, kx.after f1⟩
    | false => rw [if_neg Bool.false_ne_true] at h1 ⊢; exact k _ _ _ _ m1 f1 h1
theorem dpw_or (ha : PTd X W a wt) (hb : PWd X W (.BoolOp .Or (b :: rest) pos) wu) : PWd X W (.BoolOp .Or (a :: b :: rest) pos) (wOr wt wu) :=
  PW.imp (pw_or ha hb) fun σ H Q ⟨σD, S, F, QD, ED, sl, m, h, k, kx⟩ => by
    refine ⟨σD, S, F, _, ED, sl, m, h, fun b H1 S1 F1 m1 f1 h1 => ?_, kx⟩
    cases b with
    | false => rw [if_neg Bool.false_ne_true] at h1 ⊢; exact ⟨σD, S1, F1, QD, ED, sl.kp (f1.kp m), m1, h1, k.after f1, kx.after f1⟩
    | true => rw [if_pos rfl] at h1 ⊢; exact k _ _ _ _ m1 f1 h1
theorem dpt_not (ha : PTd X W a wt) : PTd X W (.UnaryOp .Not a pos) (wNot wt) :=
  PT.imp (pt_not ha) fun σ H Q ⟨σD, S, F, QD, ED, sl, m, h, k, kx⟩ => ⟨σD, S, F, _, ED, sl, m, h, fun b H1 S1 F1 m1 f1 h1 => k _ _ _ _ m1 f1 h1, kx⟩
theorem dpe_one {op} (h : PEd X W a w) : PEd X W (.BoolOp op [a] pos) w := pe_one h
theorem dpe_and (ha : PEd X W a wa) (hb : PEd X W (.BoolOp .And (b :: rest) pos) wb) : PEd X W (.BoolOp .And (a :: b :: rest) pos) (wAndV wa wb) :=
  PE.imp (pe_and ha hb) fun σ H Q ⟨σD, S, F, QD, ED, sl, m, h, k, kx⟩ => by
    refine ⟨σD, S, F, _, ED, sl, m, h, fun v H1 d S1 F1 r1 m1 f1 h1 => ?_, kx⟩
    try dsimp only at h1
    obtain ⟨b, rfl, g1⟩ := isB_e h1
    refine ⟨b, r1, ?_⟩
    cases b with
    | true => rw [if_pos rfl] at g1 ⊢; exact ⟨σD, S1, F1, QD, ED, sl.kp (f1.kp m), m1, g1, k.after f1, kx.after f1⟩
    | false => rw [if_neg Bool.false_ne_true] at g1 ⊢; exact k (.bl _) H1 (.bl _) S1 F1 rfl m1 f1 g1
theorem dpe_or (ha : PEd X W a wa) (hb : PEd X W (.BoolOp .Or (b :: rest) pos) wb) : PEd X W (.BoolOp .Or (a :: b :: rest) pos) (wOrV wa wb) :=
  PE.imp (pe_or ha hb) fun σ H Q ⟨σD, S, F, QD, ED, sl, m, h, k, kx⟩ => by
    refine ⟨σD, S, F, _, ED, sl, m, h, fun v H1 d S1 F1 r1 m1 f1 h1 => ?_, kx⟩
    try dsimp only at h1
    obtain ⟨b, rfl, g1⟩ := isB_e h1
    refine ⟨b, r1, ?_⟩
    cases b with
    | false => rw [if_neg Bool.false_ne_true] at g1 ⊢; exact ⟨σD, S1, F1, QD, ED, sl.kp (f1.kp m), m1, g1, k.after f1, kx.after f1⟩
    | true => rw [if_pos rfl] at g1 ⊢; exact k (.bl _) H1 (.bl _) S1 F1 rfl m1 f1 g1
theorem dpe_not (ha : PEd X W a wa) : PEd X W (.UnaryOp .Not a pos) (wNotV wa) :=
  PE.imp (pe_not ha) fun σ H Q ⟨σD, S, F, QD, ED, sl, m, h, k, kx⟩ => by
    refine ⟨σD, S, F, _, ED, sl, m, h, fun v H1 d S1 F1 r1 m1 f1 h1 => ?_, kx⟩
    try dsimp only at h1
    obtain ⟨b, rfl, g1⟩ := isB_e h1
    exact ⟨b, r1, k (.bl _) H1 (.bl _) S1 F1 rfl m1 f1 g1⟩
theorem dpe_ifE (hc : PTd X W c wt) (ha : PEd X W a wa) (hb : PEd X W b wb) : PEd X W (.IfExp c a b pos) (wIfE wt wa wb) :=
  PE.imp (pe_ifExp hc ha hb) fun σ H Q ⟨σD, S, F, QD, ED, sl, m, h, k, kx⟩ => by
    refine ⟨σD, S, F, _, ED, sl, m, h, fun b H1 S1 F1 m1 f1 h1 => ?_, kx⟩
    cases b with
    | false => rw [if_neg Bool.false_ne_true] at h1 ⊢; exact ⟨σD, S1, F1, QD, ED, sl.kp (f1.kp m), m1, h1, k.after f1, kx.after f1⟩
    | true => rw [if_pos rfl] at h1 ⊢; exact ⟨σD, S1, F1, QD, ED, sl.kp (f1.kp m), m1, h1, k.after f1, kx.after f1⟩

/-! ### argument lists, displays -/
theorem dpa_nil : PAd X W [] wNil := PA.imp pa_nil fun σ H Q ⟨σD, S, F, QD, ED, sl, m, h, k, kx⟩ => k [] H [] S F rfl m (Fm.refl S F H) h
theorem dpa_cons (ha : PEd X W e w) (hr : PAd X W es ws) (hs : starEach (e :: es) X.env = (false, eval e X.env) :: starEach es X.env := by rfl) : PAd X W (e :: es) (wCons w ws) :=
  PA.imp (pa_cons ha hr hs) fun σ H Q ⟨σD, S, F, QD, ED, sl, m, h, k, kx⟩ => by
    refine ⟨σD, S, F, _, ED, sl, m, h, fun v H1 d S1 F1 r1 m1 f1 h1 => ?_, kx⟩
    exact ⟨σD, S1, F1, _, ED, sl.kp (f1.kp m), m1, h1, fun vs H2 ds S2 F2 r2 m2 f2 h2 => k (v :: vs) H2 (d :: ds) S2 F2 ⟨v, vs, rfl, Rep.kp (f2.kp m1) _ _ r1, r2⟩ m2 (f1.trans f2) h2, kx.after f1⟩
theorem dpe_tup {x1} (h : PAd X W es ws) : PEd X W (.Tuple es x1 pos) (wTup ws) :=
  PE.imp (pe_tup h) fun σ H Q ⟨σD, S, F, QD, ED, sl, m, h, k, kx⟩ => by
    refine ⟨σD, S, F, _, ED, sl, m, h, fun vs H1 ds S1 F1 r1 m1 f1 h1 => ⟨by rw [← r1.length]; exact h1.1, fun p hp => ?_⟩, kx⟩
    exact k (.ref p) _ (.tup ds) S1 F1 ⟨p, vs, rfl, .inl (.inl upd_same), Reps.kp (kp_new hp) _ _ r1⟩ (m1.laid hp) (f1.trans (Fm.laid hp)) h1.2
theorem dpl_lst (h : PAd X W es ws) : PLd X W (.List es pos) (wLst ws) :=
  PE.imp (pe_lst h) fun σ H Q ⟨σD, S, F, QD, ED, sl, m, h, k, kx⟩ => by
    refine ⟨σD, S, F, _, ED, sl, m, h, fun vs H1 ds S1 F1 r1 m1 f1 h1 => ⟨by rw [← r1.length]; exact h1.1, fun p hp => ?_⟩, kx⟩
    obtain ⟨hs, hf⟩ := m1.fresh hp
    exact k p vs _ ds S1 F1 upd_same hs hf (Nw.back f1 (.inr (.inr hp))) (Reps.kp (kp_new hp) _ _ r1) (m1.laid hp) (f1.trans (Fm.laid hp)) h1.2
/-- it comes into the store -/
theorem dpe_new (h : PLd X W e ws) : PEd X W e (wNew ws) :=
  PE.imp h fun σ H Q ⟨σD, S, F, QD, ED, sl, m, h, k, kx⟩ => by
    refine ⟨σD, S, F, _, ED, sl, m, h, fun p vs H1 ds S1 F1 h1 h2 h3 n r1 m1 f1 q => ?_, kx⟩
    exact k (.ref p) H1 (.ref p) (sup S1 p (.lst ds)) F1 rfl (m1.adopt h2 h3 ⟨vs, h1, r1⟩) (f1.adopt n) (q p h2)
theorem dpv_new (h : PLd X W e ws) : PVd X W e ws :=
  PE.imp h fun σ H Q ⟨σD, S, F, QD, ED, sl, m, h, k, kx⟩ => ⟨σD, S, F, _, ED, sl, m, h, fun p vs H1 ds S1 F1 h1 h2 h3 n r1 m1 f1 q => k p vs H1 ds S1 F1 (.inl (.inl h1)) r1 m1 f1 q, kx⟩
theorem dpv_var (h : PEd X W e w) : PVd X W e (wDer w) :=
  PE.imp h fun σ H Q ⟨σD, S, F, QD, ED, sl, m, h, k, kx⟩ => by
    refine ⟨σD, S, F, _, ED, sl, m, h, fun v H1 d S1 F1 r1 m1 f1 h1 => ?_, kx⟩
    obtain ⟨a, ds, rfl, e1, g1⟩ := asL_e h1
    obtain ⟨vs, h2, h3⟩ := m1.obj _ _ e1
    cases r1
    exact k a vs H1 ds S1 F1 (.inl (.inl h2)) h3 m1 f1 g1

/-! ### built-in calls -/
section
variable {x : Str} {p : Pos} {id T : String} {r : List V → Hp → VK → Prop} {rD : List D → Store → DK → Prop} {rL : List D → Store → (List D → Store → Prop) → Prop}
theorem vl_imp (hl : LCV X.K r rD) {σ : L2.St} {H : Hp} {Q : VK} (h : up X.K X.mg W (wVL ws rD) σ H Q) : tCB r (tCons (upV X.K X.mg W ws) tNil) σ H Q := by
  obtain ⟨σD, S, F, QD, ED, sl, m, h, k, kx⟩ := h
  exact ⟨σD, S, F, _, ED, sl, m, h, fun p vs H1 ds S1 F1 q1 r1 m1 f1 h1 => hl p vs H1 ds S1 F1 QD Q q1 r1 m1 h1 (k.after f1), kx⟩
theorem vll_imp (hl : LCL X.K r rL) {σ : L2.St} {H : Hp} {Q : VK} (h : upL X.K X.mg W (wVLL ws rL) σ H Q) : tCB r (tCons (upV X.K X.mg W ws) tNil) σ H Q := by
  obtain ⟨σD, S, F, QD, ED, sl, m, h, k, kx⟩ := h
  exact ⟨σD, S, F, _, ED, sl, m, h, fun p vs H1 ds S1 F1 q1 r1 m1 f1 h1 => hl p vs H1 ds S1 F1 QD Q q1 r1 m1 h1 (k.after f1), kx⟩
theorem ca_imp (hl : LCA X.K r rD) {σ : L2.St} {H : Hp} {Q : VK} (h : up X.K X.mg W (wVL ws rD) σ H Q) : tCB r (upA X.K X.mg W ws) σ H Q := by
  obtain ⟨σD, S, F, QD, ED, sl, m, h, k, kx⟩ := h
  exact ⟨σD, S, F, _, ED, sl, m, h, fun vs H1 ds S1 F1 r1 m1 f1 h1 => hl vs H1 ds S1 F1 QD Q r1 m1 h1 (k.after f1), kx⟩
/-- f(xs), xs a list by value -/
theorem dpe_bv (hc : CallR X (.builtin id) r) (hl : LCV X.K r rD) (hg : Gl X x) (hm : X.mg x = none) (hv : bootBuiltins x = some (.builtin id)) (ha : PVd X W e ws) (hs : starEach [e] X.env = (false, eval e X.env) :: starEach [] X.env := by rfl) (hn : x ≠ "__name__" := by decide) (hdb : (x == ("__debug__" : Str)) = false := by decide) :
    PEd X W (.Call (.Name x p) [e] [] pos) (wVL ws rD) := PE.imp (pe_callB hc hg hm hv (pa_cons ha pa_nil hs) hn hdb hs rfl) fun _ _ _ h => vl_imp hl h
theorem dpe_tv (hc : CallR X (.type T) r) (hl : LCV X.K r rD) (hg : Gl X x) (hm : X.mg x = none) (hv : bootBuiltins x = some (.type T)) (ha : PVd X W e ws) (hs : starEach [e] X.env = (false, eval e X.env) :: starEach [] X.env := by rfl) (hn : x ≠ "__name__" := by decide) (hdb : (x == ("__debug__" : Str)) = false := by decide) :
    PEd X W (.Call (.Name x p) [e] [] pos) (wVL ws rD) := PE.imp (pe_callTy hc hg hm hv (pa_cons ha pa_nil hs) hn hdb hs rfl) fun _ _ _ h => vl_imp hl h
theorem dpl_bv (hc : CallR X (.builtin id) r) (hl : LCL X.K r rL) (hg : Gl X x) (hm : X.mg x = none) (hv : bootBuiltins x = some (.builtin id)) (ha : PVd X W e ws) (hs : starEach [e] X.env = (false, eval e X.env) :: starEach [] X.env := by rfl) (hn : x ≠ "__name__" := by decide) (hdb : (x == ("__debug__" : Str)) = false := by decide) :
    PLd X W (.Call (.Name x p) [e] [] pos) (wVLL ws rL) := PE.imp (pe_callB hc hg hm hv (pa_cons ha pa_nil hs) hn hdb hs rfl) fun _ _ _ h => vll_imp hl h
theorem dpl_tv (hc : CallR X (.type T) r) (hl : LCL X.K r rL) (hg : Gl X x) (hm : X.mg x = none) (hv : bootBuiltins x = some (.type T)) (ha : PVd X W e ws) (hs : starEach [e] X.env = (false, eval e X.env) :: starEach [] X.env := by rfl) (hn : x ≠ "__name__" := by decide) (hdb : (x == ("__debug__" : Str)) = false := by decide) :
    PLd X W (.Call (.Name x p) [e] [] pos) (wVLL ws rL) := PE.imp (pe_callTy hc hg hm hv (pa_cons ha pa_nil hs) hn hdb hs rfl) fun _ _ _ h => vll_imp hl h
/-- f(a, ..) by values -/
theorem dpe_ba (hc : CallR X (.builtin id) r) (hl : LCA X.K r rD) (hg : Gl X x) (hm : X.mg x = none) (hv : bootBuiltins x = some (.builtin id)) (ha : PAd X W (e :: es) ws) (hn : x ≠ "__name__" := by decide) (hdb : (x == ("__debug__" : Str)) = false := by decide)
    (he : starEach (e :: es) X.env = (false, eval e X.env) :: starEach es X.env := by rfl) (hpl : (backTo pos (starEach es X.env)).any (·.1) = false := by rfl) :
    PEd X W (.Call (.Name x p) (e :: es) [] pos) (wVL ws rD) := PE.imp (pe_callB hc hg hm hv ha hn hdb he hpl) fun _ _ _ h => ca_imp hl h
theorem dpe_ta (hc : CallR X (.type T) r) (hl : LCA X.K r rD) (hg : Gl X x) (hm : X.mg x = none) (hv : bootBuiltins x = some (.type T)) (ha : PAd X W (e :: es) ws) (hn : x ≠ "__name__" := by decide) (hdb : (x == ("__debug__" : Str)) = false := by decide)
    (he : starEach (e :: es) X.env = (false, eval e X.env) :: starEach es X.env := by rfl) (hpl : (backTo pos (starEach es X.env)).any (·.1) = false := by rfl) :
    PEd X W (.Call (.Name x p) (e :: es) [] pos) (wVL ws rD) := PE.imp (pe_callTy hc hg hm hv ha hn hdb he hpl) fun _ _ _ h => ca_imp hl h
end
end
end DL
/-! ## DL4 -/
namespace DL
open PySem PySem.Spec PyProof.Rows L2

/-! ### ints -/
def dI0 (g : Int → Int → D) : RD2 := fun d e S Q => match d, e with | .int i, .int j => Q (g i j) S | _, _ => False
def dI (C : Int → Int → Prop) (g : Int → Int → D) : RD2 := fun d e S Q => match d, e with | .int i, .int j => C i j ∧ Q (g i j) S | _, _ => False
section
variable {K : PySem.W.Frag}
theorem lr_I0 {g : Int → Int → V} {gD : Int → Int → D} (h : ∀ i j H, Rep K H (gD i j) (g i j)) : LR2 K (rI0 g) (dI0 gD) := by
  intro x y H d e S F QD Q rx ry m q k
  cases d <;> cases e <;> first | exact q.elim | skip
  rename_i i j
  exact ⟨i, j, rx, ry, k _ H _ S F (h i j H) m (Fm.refl S F H) q⟩
theorem lr_I {C : Int → Int → Prop} {g : Int → Int → V} {gD : Int → Int → D} (h : ∀ i j H, Rep K H (gD i j) (g i j)) : LR2 K (rI C g) (dI C gD) := by
  intro x y H d e S F QD Q rx ry m q k
  cases d <;> cases e <;> first | exact q.elim | skip
  rename_i i j
  exact ⟨i, j, rx, ry, q.1, k _ H _ S F (h i j H) m (Fm.refl S F H) q.2⟩
abbrev dAdd : RD2 := dI0 fun i j => .int (i + j)
abbrev dSub : RD2 := dI0 fun i j => .int (i - j)
abbrev dMul : RD2 := dI CMul fun i j => .int (i * j)
abbrev dDiv : RD2 := dI CDivW fun i j => .int (i / j)
abbrev dMod : RD2 := dI (fun _ j => 0 < j) fun i j => .int (i % j)
abbrev dPow : RD2 := dI CPow fun i j => .int (i ^ j.toNat)
abbrev dLt : RD2 := dI0 fun i j => .bl (decide (i < j))
abbrev dLe : RD2 := dI0 fun i j => .bl (decide (i ≤ j))
abbrev dGt : RD2 := dI0 fun i j => .bl (decide (j < i))
abbrev dGe : RD2 := dI0 fun i j => .bl (decide (j ≤ i))
theorem lr_int {f : Int → Int → Int} : LR2 K (rI0 fun i j => .int (f i j)) (dI0 fun i j => .int (f i j)) := lr_I0 fun _ _ _ => rfl
theorem lr_cmp {f : Int → Int → Bool} : LR2 K (rI0 fun i j => .bl (f i j)) (dI0 fun i j => .bl (f i j)) := lr_I0 fun _ _ _ => rfl
theorem lr_intC {C : Int → Int → Prop} {f : Int → Int → Int} : LR2 K (rI C fun i j => .int (f i j)) (dI C fun i j => .int (f i j)) := lr_I fun _ _ _ => rfl
def dU (g : Int → Int) : D → Store → DK → Prop := fun d S Q => match d with | .int i => Q (.int (g i)) S | _ => False
theorem lr_neg : LR1 K (rU fun i => .int (-i)) (dU fun i => -i) := by
  intro x H d S F QD Q rx m q k
  cases d <;> first | exact q.elim | skip
  rename_i i
  exact ⟨i, rx, k (.int (-i)) H (.int (-i)) S F rfl m (Fm.refl S F H) q⟩

/-! ### == -/
mutual
def PyR (S : Store) : PyData → D → Prop
  | .none, d => d = .non
  | .bool b, d => d = .bl b
  | .int i, d => d = .int i
  | .str x, d => d = .str x
  | .tuple ps, d => ∃ ds, d = .tup ds ∧ PyRs S ps ds
  | .list ps, d => ∃ a ds, d = .ref a ∧ S a = some (.lst ds) ∧ PyRs S ps ds
  | .dict _, _ => False
def PyRs (S : Store) : List PyData → List D → Prop
  | [], ds => ds = []
  | p :: ps, ds => ∃ d dr, ds = d :: dr ∧ PyR S p d ∧ PyRs S ps dr
end
section
variable {H : Hp} {S : Store} {F : Own}
mutual
theorem PyR.dp (m : Mod K H S F) : ∀ (p : PyData) (d : D) (v : V), PyR S p d → Rep K H d v → Dp K H v p
  | .none, _, _, h, r => by cases h; cases r; exact .non
  | .bool b, _, _, h, r => by cases h; cases r; exact .bl b
  | .int i, _, _, h, r => by cases h; cases r; exact .int i
  | .str x, _, _, h, r => by cases h; cases r; exact .str x
  | .tuple ps, _, _, h, r => by
    obtain ⟨ds, rfl, h⟩ := h
    obtain ⟨q, vs, rfl, t, r⟩ := r
    exact .tup t (PyRs.dp m ps ds vs h r)
  | .list ps, _, _, h, r => by
    obtain ⟨a, ds, rfl, e, h⟩ := h
    cases r
    obtain ⟨vs, e2, r⟩ := m.obj _ _ e
    exact .lst (SqL.of e2) (PyRs.dp m ps ds vs h r)
  | .dict _, _, _, h, _ => h.elim
theorem PyRs.dp (m : Mod K H S F) : ∀ (ps : List PyData) (ds : List D) (vs : List V), PyRs S ps ds → Reps K H ds vs → DpAll K H vs ps
  | [], _, _, h, r => by cases h; cases r; exact .nil
  | p :: ps, _, _, h, r => by
    obtain ⟨d, dr, rfl, h1, h2⟩ := h
    obtain ⟨v, vr, rfl, r1, r2⟩ := r
    exact .cons (PyR.dp m p d v h1 r1) (PyRs.dp m ps dr vr h2 r2)
end
end
def dEq : RD2 := fun d e S Q => ∃ p q, PyR S p d ∧ PyR S q e ∧ SeqAt.shaped p = true ∧ SeqAt.shaped q = true ∧ Q (.bl (PyData.eqv p q)) S
def dNe : RD2 := fun d e S Q => ∃ p q, PyR S p d ∧ PyR S q e ∧ SeqAt.shaped p = true ∧ SeqAt.shaped q = true ∧ Q (.bl (!PyData.eqv p q)) S
theorem lr_eq : LR2 K (rEqD K) dEq := by
  intro x y H d e S F QD Q rx ry m ⟨p, q, h1, h2, s1, s2, h⟩ k
  exact ⟨p, q, h1.dp m _ _ _ rx, h2.dp m _ _ _ ry, s1, s2, k (.bl _) H (.bl _) S F rfl m (Fm.refl S F H) h⟩
theorem lr_ne : LR2 K (rNeD K) dNe := by
  intro x y H d e S F QD Q rx ry m ⟨p, q, h1, h2, s1, s2, h⟩ k
  exact ⟨p, q, h1.dp m _ _ _ rx, h2.dp m _ _ _ ry, s1, s2, k (.bl _) H (.bl _) S F rfl m (Fm.refl S F H) h⟩
/-- of scalars -/
def dEqS : RD2 := fun d e S Q => match d, e with
  | .non, .non => Q (.bl true) S | .int i, .int j => Q (.bl (decide (i = j))) S | .bl i, .bl j => Q (.bl (decide (i = j))) S | .str i, .str j => Q (.bl (decide (i = j))) S
  | _, _ => False
def dNeS : RD2 := fun d e S Q => match d, e with
  | .non, .non => Q (.bl false) S | .int i, .int j => Q (.bl (!decide (i = j))) S | .bl i, .bl j => Q (.bl (!decide (i = j))) S | .str i, .str j => Q (.bl (!decide (i = j))) S
  | _, _ => False
theorem dec_iff {p q : Prop} [Decidable p] [Decidable q] (h : p ↔ q) : decide p = decide q := by simp [h]
theorem lr_eqS : LR2 K rEq dEqS := by
  intro x y H d e S F QD Q rx ry m h k
  cases d <;> cases e <;> first | exact h.elim | skip
  all_goals (cases rx; cases ry; refine ⟨rfl, ?_⟩)
  · exact k (.bl _) H (.bl true) S F rfl m (Fm.refl S F H) h
  · rw [dec_iff (show _ ↔ _ from ⟨fun z => V.bl.inj z, fun z => by rw [z]⟩)]; exact k (.bl _) H (.bl _) S F rfl m (Fm.refl S F H) h
  · rw [dec_iff (show _ ↔ _ from ⟨fun z => V.int.inj z, fun z => by rw [z]⟩)]; exact k (.bl _) H (.bl _) S F rfl m (Fm.refl S F H) h
  · rw [dec_iff (show _ ↔ _ from ⟨fun z => V.str.inj z, fun z => by rw [z]⟩)]; exact k (.bl _) H (.bl _) S F rfl m (Fm.refl S F H) h
theorem lr_neS : LR2 K rNe dNeS := by
  intro x y H d e S F QD Q rx ry m h k
  cases d <;> cases e <;> first | exact h.elim | skip
  all_goals (cases rx; cases ry; refine ⟨rfl, ?_⟩)
  · exact k (.bl _) H (.bl false) S F rfl m (Fm.refl S F H) h
  · rw [dec_iff (show _ ↔ _ from ⟨fun z => V.bl.inj z, fun z => by rw [z]⟩)]; exact k (.bl _) H (.bl _) S F rfl m (Fm.refl S F H) h
  · rw [dec_iff (show _ ↔ _ from ⟨fun z => V.int.inj z, fun z => by rw [z]⟩)]; exact k (.bl _) H (.bl _) S F rfl m (Fm.refl S F H) h
  · rw [dec_iff (show _ ↔ _ from ⟨fun z => V.str.inj z, fun z => by rw [z]⟩)]; exact k (.bl _) H (.bl _) S F rfl m (Fm.refl S F H) h
/-- is None -/
def isNon : D → Bool | .non => true | _ => false
def dIsN : RD2 := fun d e S Q => match e with | .non => Q (.bl (isNon d)) S | _ => False
def dNotN : RD2 := fun d e S Q => match e with | .non => Q (.bl (!isNon d)) S | _ => False
theorem isNon_rep {H : Hp} : ∀ {d : D} {v : V}, Rep K H d v → decide (v = .non) = isNon d
  | .non, _, h => by cases h; rfl
  | .bl _, _, h => by cases h; rfl
  | .int _, _, h => by cases h; rfl
  | .str _, _, h => by cases h; rfl
  | .ref _, _, h => by cases h; rfl
  | .tup _, _, h => by obtain ⟨p, vs, rfl, _⟩ := h; rfl
  | .rl _, _, h => by obtain ⟨p, vs, rfl, _⟩ := h; rfl
  | .fn _ _, _, h => by obtain ⟨f, _, _, _, _, _, rfl, _⟩ := h; rfl
  | .fnS _ _ _, _, h => by obtain ⟨⟨f, _, _, _, _, _, rfl, _⟩, _⟩ := h; rfl
theorem lr_isN : LR2 K (fun x y H Q => y = .non ∧ Q (.bl (decide (x = .non))) H) dIsN := by
  intro x y H d e S F QD Q rx ry m h k
  cases e <;> first | exact h.elim | skip
  refine ⟨ry, ?_⟩
  rw [isNon_rep rx]
  exact k (.bl _) H (.bl _) S F rfl m (Fm.refl S F H) h
theorem lr_notN : LR2 K (fun x y H Q => y = .non ∧ Q (.bl (!decide (x = .non))) H) dNotN := by
  intro x y H d e S F QD Q rx ry m h k
  cases e <;> first | exact h.elim | skip
  refine ⟨ry, ?_⟩
  rw [isNon_rep rx]
  exact k (.bl _) H (.bl _) S F rfl m (Fm.refl S F H) h

/-! ### tuples -/
def dCat : RD2 := fun d e S Q => match d, e with | .tup xs, .tup ys => xs.length + ys.length ≤ sizeLine ∧ Q (.tup (xs ++ ys)) S | _, _ => False
theorem lr_cat : LR2 K (rCatA K) dCat := by
  intro x y H d e S F QD Q rx ry m h k
  cases d <;> cases e <;> first | exact h.elim | skip
  rename_i xs ys
  obtain ⟨a, vs, rfl, ta, ra⟩ := rx
  obtain ⟨b, ws, rfl, tb, rb⟩ := ry
  refine ⟨a, b, vs, ws, rfl, rfl, ta, tb, by rw [← ra.length, ← rb.length]; exact h.1, fun e => ?_, fun _ e => ?_, fun _ _ p hp => ?_⟩
  · have e' := ra.nil_iff.mp e
    subst e'
    exact k (.ref b) H (.tup ys) S F ⟨b, ws, rfl, tb, rb⟩ m (Fm.refl S F H) h.2
  · have e' := rb.nil_iff.mp e
    subst e'
    refine k (.ref a) H (.tup (xs ++ [])) S F ?_ m (Fm.refl S F H) h.2
    rw [List.append_nil]
    exact ⟨a, vs, rfl, ta, ra⟩
  · exact k (.ref p) _ (.tup (xs ++ ys)) S F ⟨p, vs ++ ws, rfl, .inl (.inl upd_same), Reps.kp (kp_new hp) _ _ (ra.append rb)⟩ (m.laid hp) (Fm.laid hp) h.2
def dRep : RD2 := fun d e S Q => match d, e with | .tup xs, .int k => xs ≠ [] ∧ 2 ≤ k ∧ k ≤ 1000 ∧ xs.length ≤ 1000 ∧ Q (.tup (List.replicate k.toNat xs).flatten) S | _, _ => False
theorem Reps.rep {H : Hp} {ds : List D} {vs : List V} (h : Reps K H ds vs) : ∀ n : Nat, Reps K H (List.replicate n ds).flatten (List.replicate n vs).flatten
  | 0 => rfl
  | n + 1 => by rw [List.replicate_succ, List.replicate_succ, List.flatten_cons, List.flatten_cons]; exact h.append (Reps.rep h n)
theorem lr_rep : LR2 K (rRepT K) dRep := by
  intro x y H d e S F QD Q rx ry m h k
  cases d <;> cases e <;> first | exact h.elim | skip
  rename_i xs n
  obtain ⟨a, vs, rfl, ta, ra⟩ := rx
  cases ry
  obtain ⟨h1, h2, h3, h4, h5⟩ := h
  exact ⟨a, n, vs, rfl, rfl, ta, fun z => h1 (ra.nil_iff.mp z), h2, h3, by rw [← ra.length]; exact h4, fun p hp => k (.ref p) _ (.tup _) S F ⟨p, _, rfl, .inl (.inl upd_same), Reps.kp (kp_new hp) _ _ (ra.rep _)⟩ (m.laid hp) (Fm.laid hp) h5⟩

/-! ### places -/
theorem Reps.atI {H : Hp} {ds : List D} {vs : List V} {i : Int} {d : D} (h : Reps K H ds vs) (e : atI ds i = some d) : ∃ v, atI vs i = some v ∧ Rep K H d v := by
  unfold L2.atI at e ⊢
  rw [← h.length]
  cases q : ixN ds.length i with
  | none => rw [q] at e; cases e
  | some j =>
    rw [q] at e
    exact h.get e
def dIx : RD2 := fun d e S Q => match d, e with
  | .tup xs, .int i => (match atI xs i with | some v => Q v S | none => False)
  | .ref a, .int i => (match S a with | some (.lst xs) => (match atI xs i with | some v => Q v S | none => False) | _ => False)
  | .str z, .int i => z.length ≤ sizeLine ∧ (match atI z.cps.toList i with | some c => Q (.str ⟨#[c]⟩) S | none => False)
  | _, _ => False
theorem lr_ix : LR2 K (rIx K) dIx := by
  intro x y H d e S F QD Q rx ry m h k
  cases d <;> cases e <;> first | exact h.elim | skip
  · rename_i z i
    obtain ⟨h0, h⟩ := h
    split at h
    · rename_i c q
      cases rx; cases ry
      exact .inr (.inr ⟨z, i, c, rfl, rfl, h0, q, k (.str _) H (.str _) S F rfl m (Fm.refl S F H) h⟩)
    · exact h.elim
  · rename_i xs i
    obtain ⟨a, vs, rfl, ta, ra⟩ := rx
    cases ry
    unfold dIx at h
    dsimp only at h
    split at h
    · rename_i v q
      obtain ⟨w, h1, h2⟩ := ra.atI q
      exact .inr (.inl ⟨a, vs, i, w, rfl, rfl, ta, h1, k _ H _ S F h2 m (Fm.refl S F H) h⟩)
    · exact h.elim
  · rename_i a i
    cases rx; cases ry
    unfold dIx at h
    dsimp only at h
    split at h
    · rename_i xs q
      split at h
      · rename_i v q2
        obtain ⟨vs, h1, h2⟩ := m.obj _ _ q
        obtain ⟨w, h3, h4⟩ := h2.atI q2
        exact .inl ⟨a, vs, i, w, rfl, rfl, SqL.of h1, h3, k _ H _ S F h4 m (Fm.refl S F H) h⟩
      · exact h.elim
    · exact h.elim
end
section
variable {X : Cx} {W : WX} {a b c e : Expr} {es : List Expr} {wa wb wc w : DE} {wt wu : DT} {ws vs : DA} {pos p2 : Pos}
theorem dpe_ix (ha : PEd X W a wa) (hb : PEd X W b wb) (hs : PlainIx b) : PEd X W (.Subscript a b pos) (wOp dIx wa wb) := PE.imp (pe_ix ix_seq ha hb hs) fun _ _ _ h => op_imp lr_ix h
/-- [a, b, ..][i] -/
def wIxV (wa : DA) (wb : DE) : DE := fun σ S Q E => wa σ S (fun xs S1 => wb σ S1 (fun y S2 => match y with | .int i => (match atI xs i with | some v => Q v S2 | none => False) | _ => False) E) E
/-- after a list made by value its address stays its own -/
theorem own_after {K : PySem.W.Frag} {S S1 : Store} {F F1 : Own} {H H1 : Hp} (f : Fm S F H S1 F1 H1) {p : Addr} {vs : List V} (h1 : H p = some (.lst vs)) (h2 : S p = none) (h3 : F p = none) : H1 p = some (.lst vs) ∧ S1 p = none ∧ F1 p = none := f.cl h1 h2 h3
theorem dpe_ixV (ha : PLd X W a ws) (hb : PEd X W b wb) (hs : PlainIx b) : PEd X W (.Subscript a b pos) (wIxV ws wb) :=
  PE.imp (pe_ix ix_list ha hb hs) fun σ H Q ⟨σD, S, F, QD, ED, sl, m, h, k, kx⟩ => by
    refine ⟨σD, S, F, _, ED, sl, m, h, fun p vs H1 ds S1 F1 q1 q2 q3 n r1 m1 f1 h1 => ?_, kx⟩
    refine ⟨σD, S1, F1, _, ED, sl.kp (f1.kp m), m1, h1, fun v2 H2 d2 S2 F2 r2 m2 f2 h2 => ?_, kx.after f1⟩
    obtain ⟨z1, z2, z3⟩ := f2.cl q1 q2 q3
    cases d2 <;> first | exact h2.elim | skip
    rename_i i
    dsimp only at h2
    split at h2
    · rename_i v q
      obtain ⟨w, h3, h4⟩ := Reps.atI r1 q
      exact ⟨p, vs, i, w, rfl, r2, SqL.of z1, h3, k _ H2 _ S2 F2 (Rep.kp (f2.kp m1) _ _ h4) m2 (f1.trans f2) h2⟩
    · exact h2.elim

/-! ### lists by value, compared -/
def wEqL (wa wb : DA) (neg : Bool) : DE := fun σ S Q E => wa σ S (fun xs S1 => wb σ S1 (fun ys S2 => ∃ ps qs, PyRs S2 ps xs ∧ PyRs S2 qs ys ∧ SeqAt.shaped (.list ps) = true ∧ SeqAt.shaped (.list qs) = true ∧ Q (.bl (if neg then !PyData.eqvAll ps qs else PyData.eqvAll ps qs)) S2) E) E
theorem eqL_imp {r : R2} {neg : Bool} (hr : ∀ x y H Q, (∃ d e, Dp X.K H x d ∧ Dp X.K H y e ∧ SeqAt.shaped d = true ∧ SeqAt.shaped e = true ∧ Q (.bl (if neg then !PyData.eqv d e else PyData.eqv d e)) H) → r x y H Q) {σ : L2.St} {H : Hp} {Q : VK} (h : up X.K X.mg W (wEqL ws vs neg) σ H Q) :
    tOp r (upL X.K X.mg W ws) (upL X.K X.mg W vs) σ H Q := by
  obtain ⟨σD, S, F, QD, ED, sl, m, h, k, kx⟩ := h
  refine ⟨σD, S, F, _, ED, sl, m, h, fun p vs H1 ds S1 F1 q1 q2 q3 n r1 m1 f1 h1 => ?_, kx⟩
  refine ⟨σD, S1, F1, _, ED, sl.kp (f1.kp m), m1, h1, fun p' vs' H2 ds' S2 F2 q1' q2' q3' n' r2 m2 f2 h2 => ?_, kx.after f1⟩
  obtain ⟨z1, z2, z3⟩ := f2.cl q1 q2 q3
  obtain ⟨ps, qs, a1, a2, a3, a4, a5⟩ := h2
  refine hr _ _ _ _ ⟨.list ps, .list qs, .lst (SqL.of z1) (a1.dp m2 _ _ _ (Reps.kp (f2.kp m1) _ _ r1)), .lst (SqL.of q1') (a2.dp m2 _ _ _ r2), a3, a4, ?_⟩
  refine k (.bl _) H2 (.bl _) S2 F2 ?_ m2 (f1.trans f2) a5
  cases neg <;> simp [Rep, PyData.eqv]
theorem dpe_eqL (hu : X.A.units + 64 < cLine) (ha : PLd X W a ws) (hb : PLd X W b vs) (hm : behindInMarks .Eq b = false) : PEd X W (.Compare a [.Eq] [b] pos) (wEqL ws vs false) := PE.imp (pe_cmpR (op_eqD hu) ha hb hm) fun _ _ _ h => eqL_imp (fun _ _ _ _ q => q) h
theorem dpe_neL (hu : X.A.units + 64 < cLine) (ha : PLd X W a ws) (hb : PLd X W b vs) (hm : behindInMarks .NotEq b = false) : PEd X W (.Compare a [.NotEq] [b] pos) (wEqL ws vs true) := PE.imp (pe_cmpR (op_neD hu) ha hb hm) fun _ _ _ h => eqL_imp (fun _ _ _ _ q => q) h
theorem dpt_eqL (hu : X.A.units + 64 < cLine) (ha : PLd X W a ws) (hb : PLd X W b vs) (hm : behindInMarks .Eq b = false) : PTd X W (.Compare a [.Eq] [b] pos) (wTst (wEqL ws vs false)) := PT.imp (pt_cmpR (op_eqD hu) ha hb hm) fun _ _ _ h => eqL_imp (fun _ _ _ _ q => q) (tst_imp h)
theorem dpt_neL (hu : X.A.units + 64 < cLine) (ha : PLd X W a ws) (hb : PLd X W b vs) (hm : behindInMarks .NotEq b = false) : PTd X W (.Compare a [.NotEq] [b] pos) (wTst (wEqL ws vs true)) := PT.imp (pt_cmpR (op_neD hu) ha hb hm) fun _ _ _ h => eqL_imp (fun _ _ _ _ q => q) (tst_imp h)
/-- a value (a list of the store, a tuple ..) against a list made by value -/
def wEqVL (wa : DE) (wb : DA) (neg : Bool) : DE := fun σ S Q E => wa σ S (fun d S1 => wb σ S1 (fun ys S2 => ∃ p qs, PyR S2 p d ∧ PyRs S2 qs ys ∧ SeqAt.shaped p = true ∧ SeqAt.shaped (.list qs) = true ∧ Q (.bl (if neg then !PyData.eqv p (.list qs) else PyData.eqv p (.list qs))) S2) E) E
theorem eqVL_imp {r : R2} {neg : Bool} (hr : ∀ x y H Q, (∃ d e, Dp X.K H x d ∧ Dp X.K H y e ∧ SeqAt.shaped d = true ∧ SeqAt.shaped e = true ∧ Q (.bl (if neg then !PyData.eqv d e else PyData.eqv d e)) H) → r x y H Q) {σ : L2.St} {H : Hp} {Q : VK} (h : up X.K X.mg W (wEqVL wa vs neg) σ H Q) :
    tOp r (up X.K X.mg W wa) (upL X.K X.mg W vs) σ H Q := by
  obtain ⟨σD, S, F, QD, ED, sl, m, h, k, kx⟩ := h
  refine ⟨σD, S, F, _, ED, sl, m, h, fun v H1 d S1 F1 r1 m1 f1 h1 => ?_, kx⟩
  refine ⟨σD, S1, F1, _, ED, sl.kp (f1.kp m), m1, h1, fun p' vs' H2 ds' S2 F2 q1' q2' q3' n' r2 m2 f2 h2 => ?_, kx.after f1⟩
  obtain ⟨p, qs, a1, a2, a3, a4, a5⟩ := h2
  refine hr _ _ _ _ ⟨p, .list qs, a1.dp m2 _ _ _ (Rep.kp (f2.kp m1) _ _ r1), .lst (SqL.of q1') (a2.dp m2 _ _ _ r2), a3, a4, ?_⟩
  exact k (.bl _) H2 (.bl _) S2 F2 rfl m2 (f1.trans f2) a5
theorem dpe_eqVL (hu : X.A.units + 64 < cLine) (ha : PEd X W a wa) (hb : PLd X W b vs) (hm : behindInMarks .Eq b = false) : PEd X W (.Compare a [.Eq] [b] pos) (wEqVL wa vs false) := PE.imp (pe_cmpR (op_eqD hu) ha hb hm) fun _ _ _ h => eqVL_imp (fun _ _ _ _ q => q) h
theorem dpt_eqVL (hu : X.A.units + 64 < cLine) (ha : PEd X W a wa) (hb : PLd X W b vs) (hm : behindInMarks .Eq b = false) : PTd X W (.Compare a [.Eq] [b] pos) (wTst (wEqVL wa vs false)) := PT.imp (pt_cmpR (op_eqD hu) ha hb hm) fun _ _ _ h => eqVL_imp (fun _ _ _ _ q => q) (tst_imp h)
theorem dpt_neVL (hu : X.A.units + 64 < cLine) (ha : PEd X W a wa) (hb : PLd X W b vs) (hm : behindInMarks .NotEq b = false) : PTd X W (.Compare a [.NotEq] [b] pos) (wTst (wEqVL wa vs true)) := PT.imp (pt_cmpR (op_neD hu) ha hb hm) fun _ _ _ h => eqVL_imp (fun _ _ _ _ q => q) (tst_imp h)

/-! ### slices -/
abbrev DO := DSt → Store → (Option Int → Store → Prop) → XE → Prop
def upO (K : PySem.W.Frag) (mg : Str → Option Value) (W : WX) (w : DO) : TO := fun σ H Q => ∃ σD S F QD ED, SlR K H σD σ ∧ Mod K H S F ∧ w σD S QD ED ∧ (∀ o H' S' F', Mod K H' S' F' → Fm S F H S' F' H' → QD o S' → Q o H') ∧ PostX K mg S F H ED (fun c d H' => W c d σ H')
abbrev POd (X : Cx) (W : WX) (e : Option Expr) (w : DO) : Prop := PO X e (upO X.K X.mg W w)
def wNo : DO := fun _ S Q _ => Q none S
def wPart (w : DE) : DO := fun σ S Q E => w σ S (fun d S1 => match d with | .int i => Q (some i) S1 | _ => False) E
theorem PO.imp {e : Option Expr} {t t' : TO} (h : PO X e t) (k : ∀ σ H Q, t' σ H Q → t σ H Q) : PO X e t' := ⟨fun pins s σ H Q I q => h.run pins s σ H Q I (k σ H Q q)⟩
theorem dpo_none : POd X W none wNo := PO.imp po_none fun σ H Q ⟨σD, S, F, QD, ED, sl, m, h, k, kx⟩ => k none H S F m (Fm.refl S F H) h
theorem dpo_some (h : PEd X W e w) : POd X W (some e) (wPart w) := PO.imp (po_some h) fun σ H Q ⟨σD, S, F, QD, ED, sl, m, h, k, kx⟩ => by
  refine ⟨σD, S, F, _, ED, sl, m, h, fun v H1 d S1 F1 r1 m1 f1 h1 => ?_, kx⟩
  cases d <;> first | exact h1.elim | skip
  rename_i i
  exact ⟨i, r1, k (some i) H1 S1 F1 m1 f1 h1⟩
def cutD (xs : List D) (lo hi : Option Int) : List D := (xs.drop (HT.sIx xs.length 0 lo)).take (HT.sIx xs.length xs.length hi - HT.sIx xs.length 0 lo)
theorem Reps.cut {K : PySem.W.Frag} {H : Hp} {ds : List D} {vs : List V} (h : Reps K H ds vs) (lo hi : Option Int) : Reps K H (cutD ds lo hi) (cutV vs lo hi) := by
  unfold cutD cutV
  rw [h.length]
  exact (h.drop _).take _
def dSlT (d : D) (lo hi : Option Int) (S : Store) (Q : DK) : Prop := match d with | .tup xs => Q (.tup (cutD xs lo hi)) S | _ => False
def wSlT (w : DE) (l u : DO) : DE := fun σ S Q E => w σ S (fun d S1 => l σ S1 (fun lo S2 => u σ S2 (fun hi S3 => dSlT d lo hi S3 Q) E) E) E
theorem dpe_slT {lo hi : Option Expr} {l u : DO} (he : PEd X W e w) (hl : POd X W lo l) (hu : POd X W hi u) : PEd X W (.Subscript e (.Slice lo hi none p2) pos) (wSlT w l u) :=
  PE.imp (pe_slice sl_tupA he hl hu) fun σ H Q ⟨σD, S, F, QD, ED, sl, m, h, k, kx⟩ => by
    refine ⟨σD, S, F, _, ED, sl, m, h, fun v H1 d S1 F1 r1 m1 f1 h1 => ?_, kx⟩
    refine ⟨σD, S1, F1, _, ED, sl.kp (f1.kp m), m1, h1, fun lo H2 S2 F2 m2 f2 h2 => ?_, kx.after f1⟩
    have f12 := f1.trans f2
    refine ⟨σD, S2, F2, _, ED, sl.kp (f12.kp m), m2, h2, fun hi H3 S3 F3 m3 f3 h3 => ?_, kx.after f12⟩
    have f123 := f12.trans f3
    cases d <;> first | exact h3.elim | skip
    rename_i xs
    obtain ⟨a, vs, rfl, ta, ra⟩ := Rep.kp ((f2.trans f3).kp m1) _ _ r1
    refine ⟨a, vs, rfl, ta, fun q => ?_, fun q p hp => ?_⟩
    · refine k (.ref a) H3 (.tup (cutD xs lo hi)) S3 F3 ⟨a, vs, rfl, ta, ?_⟩ m3 f123 h3
      have e : cutD xs lo hi = xs := by
        unfold cutD
        rw [ra.length, q.1, q.2]
        simp [← ra.length]
      rw [e]; exact ra
    · exact k (.ref p) _ (.tup (cutD xs lo hi)) S3 F3 ⟨p, _, rfl, .inl (.inl upd_same), Reps.kp (kp_new hp) _ _ (ra.cut lo hi)⟩ (m3.laid hp) (f123.trans (Fm.laid hp)) h3
/-- of a list of the store: a new list -/
def wSlL (w : DA) (l u : DO) : DA := fun σ S Q E => w σ S (fun xs S1 => l σ S1 (fun lo S2 => u σ S2 (fun hi S3 => Q (cutD xs lo hi) S3) E) E) E
end
end DL
/-! ## DL5 -/
namespace DL
open PySem PySem.Spec PyProof.Rows L2

/-! ### statements -/
structure DEnds where
  nx : DSt → Store → Prop
  rt : DK
  ex : ExcD → DSt → Store → Prop
  bk : DSt → Store → Prop := fun _ _ => False
  ct : DSt → Store → Prop := fun _ _ => False
abbrev DS := DEnds → DSt → Store → Prop
def PostS (K : PySem.W.Frag) (S : Store) (F : Own) (H : Hp) (QD : DSt → Store → Prop) (Q : L2.St → Hp → Prop) : Prop :=
  ∀ σ' H' σD' S' F', SlR K H' σD' σ' → Mod K H' S' F' → Fm S F H S' F' H' → QD σD' S' → Q σ' H'
def PostSX (K : PySem.W.Frag) (mg : Str → Option Value) (S : Store) (F : Own) (H : Hp) (ED : ExcD → DSt → Store → Prop) (W : WX) : Prop :=
  ∀ cls dd σ' H' e σD' S' F', ExcR K mg H' e cls dd → SlR K H' σD' σ' → Mod K H' S' F' → Fm S F H S' F' H' → ED e σD' S' → W cls dd σ' H'
structure EndsR (K : PySem.W.Frag) (mg : Str → Option Value) (W : WX) (S : Store) (F : Own) (H : Hp) (DD : DEnds) (D : Ends) : Prop where
  nx : PostS K S F H DD.nx D.nx
  rt : Post K S F H DD.rt D.rt
  bk : PostS K S F H DD.bk D.bk
  ct : PostS K S F H DD.ct D.ct
  ex : PostSX K mg S F H DD.ex W
def upS (K : PySem.W.Frag) (mg : Str → Option Value) (W : WX) (w : DS) : TS := fun D σ H => ∃ σD S F DD, SlR K H σD σ ∧ Mod K H S F ∧ w DD σD S ∧ EndsR K mg W S F H DD D
abbrev PSd (X : Cx) (W : WX) (st : Stmt) (w : DS) : Prop := PS X st (upS X.K X.mg W w)
abbrev PSsd (X : Cx) (W : WX) (st : List Stmt) (w : DS) : Prop := PSs X st (upS X.K X.mg W w)
section
variable {K : PySem.W.Frag} {mg : Str → Option Value} {W : WX} {H H1 : Hp} {S S1 : Store} {F F1 : Own} {DD : DEnds} {D : Ends}
theorem PostS.after {QD : DSt → Store → Prop} {Q : L2.St → Hp → Prop} (f : Fm S F H S1 F1 H1) (k : PostS K S F H QD Q) : PostS K S1 F1 H1 QD Q := fun σ' H' σD' S' F' sl m f' q => k σ' H' σD' S' F' sl m (f.trans f') q
theorem PostSX.after {ED : ExcD → DSt → Store → Prop} (f : Fm S F H S1 F1 H1) (k : PostSX K mg S F H ED W) : PostSX K mg S1 F1 H1 ED W := fun cls dd σ' H' e σD' S' F' r sl m f' q => k cls dd σ' H' e σD' S' F' r sl m (f.trans f') q
theorem EndsR.after (f : Fm S F H S1 F1 H1) (k : EndsR K mg W S F H DD D) : EndsR K mg W S1 F1 H1 DD D := ⟨k.nx.after f, k.rt.after f, k.bk.after f, k.ct.after f, k.ex.after f⟩
theorem PostSX.ex {ED : ExcD → DSt → Store → Prop} (k : PostSX K mg S F H ED W) (m : Mod K H S F) {σD : DSt} {σ : L2.St} (sl : SlR K H σD σ) : PostX K mg S F H (fun e S' => ED e σD S') (fun c d H' => W c d σ H') :=
  fun cls dd H' e S' F' r m' f q => k cls dd σ H' e σD S' F' r (sl.kp (f.kp m)) m' f q
end
def wSeq (t u : DS) : DS := fun D σ S => t { D with nx := fun σ' S' => u D σ' S' } σ S
def wNext : DS := fun D σ S => D.nx σ S
def wBreak : DS := fun D σ S => D.bk σ S
def wCont : DS := fun D σ S => D.ct σ S
def wDrop (w : DE) : DS := fun D σ S => w σ S (fun _ S' => D.nx σ S') (fun e S' => D.ex e σ S')
def wRet (w : DE) : DS := fun D σ S => w σ S D.rt (fun e S' => D.ex e σ S')
def wRetN : DS := fun D _ S => D.rt .non S
def wIf (c : DT) (t u : DS) : DS := fun D σ S => c σ S (fun b S' => if b = true then t D σ S' else u D σ S') (fun e S' => D.ex e σ S')
abbrev DG := D → DSt → Store → (DSt → Store → Prop) → Prop
def wAsg (w : DE) (g : DG) : DS := fun D σ S => w σ S (fun d S' => g d σ S' D.nx) (fun e S' => D.ex e σ S')
def gNm (i : Nat) : DG := fun d σ S Q => Q (σ.set i (some d)) S
def upG (K : PySem.W.Frag) (vs : List Nat) (g : DG) : TG := fun v σ H Q => ∃ d σD S F QD, Rep K H d v ∧ SlR K H σD σ ∧ Mod K H S F ∧ g d σD S QD ∧
  (∀ σ' H' σD' S' F', (∀ j, j ∉ vs → σ'[j]? = σ[j]?) → σ'.length = σ.length → SlR K H' σD' σ' → Mod K H' S' F' → Fm S F H S' F' H' → QD σD' S' → Q σ' H')
abbrev PGd (X : Cx) (vs : List Nat) (e : Expr) (g : DG) : Prop := PG X e (upG X.K vs g)
theorem PG.imp {X : Cx} {e : Expr} {t t' : TG} (h : PG X e t) (k : ∀ v σ H Q, t' v σ H Q → t v σ H Q) : PG X e t' := ⟨fun pins s σ H v u Q I r q => h.run pins s σ H v u Q I r (k v σ H Q q)⟩
theorem PGs.imp {X : Cx} {e : List Expr} {t t' : TGs} (h : PGs X e t) (k : ∀ v σ H Q, t' v σ H Q → t v σ H Q) : PGs X e t' := ⟨fun pins s σ H v u Q I r q => h.run pins s σ H v u Q I r (k v σ H Q q)⟩
section
variable {X : Cx} {W : WX} {st : Stmt} {rest a b body : List Stmt} {e c tg : Expr} {w : DE} {wt : DT} {ws : DA} {t u : DS} {pos : Pos} {g : DG} {vs : List Nat}
theorem dpss_nil : PSsd X W [] wNext := PSs.imp pss_nil fun D σ H ⟨σD, S, F, DD, sl, m, h, k⟩ => k.nx σ H σD S F sl m (Fm.refl S F H) h
theorem dpss_cons (h1 : PSd X W st t) (h2 : PSsd X W rest u) : PSsd X W (st :: rest) (wSeq t u) := PSs.imp (pss_cons h1 h2) fun D σ H ⟨σD, S, F, DD, sl, m, h, k⟩ =>
  ⟨σD, S, F, { DD with nx := fun σ' S' => u DD σ' S' }, sl, m, h, ⟨fun σ' H' σD' S' F' sl' m' f q => ⟨σD', S', F', DD, sl', m', q, k.after f⟩, k.rt, k.bk, k.ct, k.ex⟩⟩
theorem dpss_one (h1 : PSd X W st t) : PSsd X W [st] t := pss_one h1
theorem dps_pass : PSd X W (.Pass pos) wNext := PS.imp ps_pass fun D σ H ⟨σD, S, F, DD, sl, m, h, k⟩ => k.nx σ H σD S F sl m (Fm.refl S F H) h
theorem dps_break : PSd X W (.Break pos) wBreak := PS.imp ps_break fun D σ H ⟨σD, S, F, DD, sl, m, h, k⟩ => k.bk σ H σD S F sl m (Fm.refl S F H) h
theorem dps_cont : PSd X W (.Continue pos) wCont := PS.imp ps_continue fun D σ H ⟨σD, S, F, DD, sl, m, h, k⟩ => k.ct σ H σD S F sl m (Fm.refl S F H) h
theorem dps_expr (he : PEd X W e w) (hs : swapsWith e none pos.line X.env = pure false := by rfl) : PSd X W (.Expr e pos) (wDrop w) := PS.imp (ps_expr he hs) fun D σ H ⟨σD, S, F, DD, sl, m, h, k⟩ =>
  ⟨σD, S, F, _, _, sl, m, h, fun v H' d S' F' r m' f q => k.nx σ H' σD S' F' (sl.kp (f.kp m)) m' f q, k.ex.ex m sl⟩
theorem dps_ret (he : PEd X W e w) : PSd X W (.Return (some e) pos) (wRet w) := PS.imp (ps_ret he) fun D σ H ⟨σD, S, F, DD, sl, m, h, k⟩ => ⟨σD, S, F, _, _, sl, m, h, k.rt, k.ex.ex m sl⟩
theorem dps_retN : PSd X W (.Return none pos) wRetN := PS.imp ps_retN fun D σ H ⟨σD, S, F, DD, sl, m, h, k⟩ => k.rt .non H .non S F rfl m (Fm.refl S F H) h
theorem dps_if (hc : PTd X W c wt) (ha : PSsd X W a t) (hb : PSsd X W b u) : PSd X W (.If c a b pos) (wIf wt t u) := PS.imp (ps_if hc ha hb) fun D σ H ⟨σD, S, F, DD, sl, m, h, k⟩ => by
  refine ⟨σD, S, F, _, _, sl, m, h, fun b H' S' F' m' f q => ?_, k.ex.ex m sl⟩
  cases b with
  | true => rw [if_pos rfl] at q ⊢; exact ⟨σD, S', F', DD, sl.kp (f.kp m), m', q, k.after f⟩
  | false => rw [if_neg Bool.false_ne_true] at q ⊢; exact ⟨σD, S', F', DD, sl.kp (f.kp m), m', q, k.after f⟩
theorem set_other {σ : L2.St} {i : Nat} {v : V} (hi : i ∈ vs) : ∀ j, j ∉ vs → (σ.set i (some v))[j]? = σ[j]? := fun j hj => by
  rw [List.getElem?_set_ne (fun z => by subst z; exact hj hi)]
theorem dpg_name {i : Nat} {x : Str} (hN : X.N.Nodup) (hi : X.N[i]? = some x) (hx : Loc X.env.scope x) (hv : i ∈ vs := by decide) (hf : X.fn x = true ∨ X.env.scope.names.lookup x = some .local := by first | exact .inl rfl | exact .inr rfl | assumption) : PGd X vs (.Name x pos) (gNm i) :=
  PG.imp (pg_name hN hi hx hf) fun v σ H Q ⟨d, σD, S, F, QD, r, sl, m, h, k⟩ => k _ H _ S F (set_other hv) (by rw [List.length_set]) (sl.set i r) m (Fm.refl S F H) h
theorem dps_asg (he : PEd X W e w) (hg : PGd X vs tg g) (hs : swapsWithSole [tg] e pos.line X.env = pure false := by rfl) (hw : swappedStores [tg] e X.env = pure none := by rfl)
    (h1 : (assignEach [tg] X.env).map (·.2) = [assign tg X.env] := by rfl) : PSd X W (.Assign [tg] e pos) (wAsg w g) := PS.imp (ps_asg he hg hs hw h1) fun D σ H ⟨σD, S, F, DD, sl, m, h, k⟩ =>
  ⟨σD, S, F, _, _, sl, m, h, fun v H' d S' F' r m' f q => ⟨d, σD, S', F', _, r, sl.kp (f.kp m), m', q, fun σ2 H2 σD2 S2 F2 _ _ sl2 m2 f2 q2 => k.nx σ2 H2 σD2 S2 F2 sl2 m2 (f.trans f2) q2⟩, k.ex.ex m sl⟩
theorem dps_set {i : Nat} {x : Str} {pos' : Pos} (hN : X.N.Nodup) (hi : X.N[i]? = some x) (hx : Loc X.env.scope x) (he : PEd X W e w) (hs : swapsWith e (some (.Name x pos')) pos.line X.env = pure false := by rfl) (hf : X.fn x = true ∨ X.env.scope.names.lookup x = some .local := by first | exact .inl rfl | exact .inr rfl | assumption) :
    PSd X W (.Assign [.Name x pos'] e pos) (wAsg w (gNm i)) := PS.imp (ps_set hN hi hx he hs hf) fun D σ H ⟨σD, S, F, DD, sl, m, h, k⟩ =>
  ⟨σD, S, F, _, _, sl, m, h, fun v H' d S' F' r m' f q => k.nx _ H' _ S' F' ((sl.kp (f.kp m)).set i r) m' f q, k.ex.ex m sl⟩
/-- a, b = e1, e2 -/
def wPar (i j : Nat) (a : DA) : DS := fun D σ S => a σ S (fun ds S' => match ds with | [d, e] => D.nx ((σ.set i (some d)).set j (some e)) S' | _ => False) (fun e S' => D.ex e σ S')
theorem dps_par {i j : Nat} {x y : Str} {p q : Expr} {px py pt : Pos} {kt k2 pt2} (hc : X.calm = true) (hN : X.N.Nodup) (hi : X.N[i]? = some x) (hj : X.N[j]? = some y) (hij : i ≠ j)
    (hx : X.env.scope.names.lookup x = some .local) (hy : X.env.scope.names.lookup y = some .local) (ha : PAd X W [p, q] ws)
    (hw : swappedStores [.Tuple [.Name x px, .Name y py] kt pt] (.Tuple [p, q] k2 pt2) X.env = pure (some [x, y]))
    (hs : swapsWithSole [.Tuple [.Name x px, .Name y py] kt pt] (.Tuple [p, q] k2 pt2) pos.line X.env = pure false := by rfl) :
    PSd X W (.Assign [.Tuple [.Name x px, .Name y py] kt pt] (.Tuple [p, q] k2 pt2) pos) (wPar i j ws) := PS.imp (ps_par hc hN hi hj hij hx hy ha hw hs) fun D σ H ⟨σD, S, F, DD, sl, m, h, k⟩ => by
  refine ⟨σD, S, F, _, _, sl, m, h, fun vs H' ds S' F' r m' f q => ?_, k.ex.ex m sl⟩
  dsimp only at q
  split at q
  · obtain ⟨v, vr, rfl, r1, v2, vr2, rfl, r2, rfl⟩ := r
    exact ⟨v, v2, rfl, k.nx _ H' _ S' F' (((sl.kp (f.kp m)).set i r1).set j r2) m' f q⟩
  · exact q.elim

/-! ### what is walked -/
abbrev SF := Hp → Store → Own → Prop
structure Srv (K : PySem.W.Frag) (J : It) (ds : List D) (St : Store → Prop) (B : SF) : Prop where
  bk : ∀ S F H S' F' H', Mod K H S F → Fm S F H S' F' H' → B H S F → B H' S' F'
  go : ∀ i S F H, i < ds.length → B H S F → Mod K H S F → St S → J.go i H
  stop : ∀ S F H, B H S F → Mod K H S F → St S → J.stop ds.length H
  yld : ∀ i S F H x H', B H S F → Mod K H S F → St S → J.yld i H x H' → i < ds.length → ∃ d, ds[i]? = some d ∧ Rep K H' d x ∧ Mod K H' S F ∧ Fm S F H S F H'
abbrev DI := DSt → Store → (List D → (Store → Prop) → Store → Prop) → XE → Prop
def upI (K : PySem.W.Frag) (mg : Str → Option Value) (W : WX) (w : DI) : TI := fun σ H R => ∃ σD S F QD ED, SlR K H σD σ ∧ Mod K H S F ∧ w σD S QD ED ∧
  (∀ J H' ds St B S' F', Srv K J ds St B → B H' S' F' → Mod K H' S' F' → Fm S F H S' F' H' → QD ds St S' → R J H') ∧ PostX K mg S F H ED (fun c d H' => W c d σ H')
abbrev PId (X : Cx) (W : WX) (tg it : Expr) (w : DI) : Prop := PI X tg it (upI X.K X.mg W w)
theorem PI.imp {tg it : Expr} {t t' : TI} (h : PI X tg it t) (k : ∀ σ H R, t' σ H R → t σ H R) : PI X tg it t' := ⟨fun pins s σ H R I q => h.run pins s σ H R I (k σ H R q)⟩
def iTp (w : DE) : DI := fun σ S Q E => w σ S (fun d S' => match d with | .tup xs => Q xs (fun _ => True) S' | _ => False) E
def iLs (w : DE) : DI := fun σ S Q E => w σ S (fun d S' => match d with | .ref a => (match S' a with | some (.lst xs) => Q xs (fun S => S a = some (.lst xs)) S' | _ => False) | _ => False) E
def iNw (w : DA) : DI := fun σ S Q E => w σ S (fun ds S' => Q ds (fun _ => True) S') E
def rngD (lo : Int) (n : Nat) : List D := (List.range n).map fun (i : Nat) => .int (lo + i)
def iR1 (w : DA) : DI := fun σ S Q E => w σ S (fun ds S' => match ds with | [.int j] => (-(2 ^ 62) ≤ j ∧ j < 2 ^ 62) ∧ Q (rngD 0 j.toNat) (fun _ => True) S' | _ => False) E
def iR2 (w : DA) : DI := fun σ S Q E => w σ S (fun ds S' => match ds with | [.int i, .int j] => (-(2 ^ 62) ≤ i ∧ i < 2 ^ 62 ∧ -(2 ^ 62) ≤ j ∧ j < 2 ^ 62) ∧ Q (rngD i (j - i).toNat) (fun _ => True) S' | _ => False) E
theorem srv_tup {K : PySem.W.Frag} {a : Addr} {ds : List D} : Srv K (Itt K a) ds (fun _ => True) (fun H _ _ => ∃ vs, SqT K H a vs ∧ Reps K H ds vs) where
  bk := fun S F H S' F' H' m f ⟨vs, h1, h2⟩ => ⟨vs, SqT.kp (f.kp m) h1, Reps.kp (f.kp m) _ _ h2⟩
  go := fun i S F H hi ⟨vs, h1, h2⟩ m _ => ⟨vs, vs[i]'(by rw [← h2.length]; exact hi), h1, by simp⟩
  stop := fun S F H ⟨vs, h1, h2⟩ m _ => ⟨vs, h1, by rw [h2.length]; exact Nat.le_refl _⟩
  yld := fun i S F H x H' ⟨vs, h1, h2⟩ m _ ⟨e, y⟩ hi => by
    subst e
    obtain ⟨v, e1, r⟩ := h2.get (List.getElem?_eq_getElem hi)
    have e2 := y vs h1
    rw [e1] at e2; cases e2
    exact ⟨_, List.getElem?_eq_getElem hi, r, m, Fm.refl _ _ _⟩
theorem srv_lst {K : PySem.W.Frag} {a : Addr} {ds : List D} : Srv K (Itl K a) ds (fun S => S a = some (.lst ds)) (fun _ _ _ => True) where
  bk := fun _ _ _ _ _ _ _ _ _ => True.intro
  go := fun i S F H hi _ m e => by
    obtain ⟨vs, h1, h2⟩ := m.obj _ _ e
    exact ⟨vs, vs[i]'(by rw [← h2.length]; exact hi), SqL.of h1, by simp⟩
  stop := fun S F H _ m e => by
    obtain ⟨vs, h1, h2⟩ := m.obj _ _ e
    exact ⟨vs, SqL.of h1, by rw [h2.length]; exact Nat.le_refl _⟩
  yld := fun i S F H x H' _ m e ⟨e', y⟩ hi => by
    subst e'
    obtain ⟨vs, h1, h2⟩ := m.obj _ _ e
    obtain ⟨v, e1, r⟩ := h2.get (List.getElem?_eq_getElem hi)
    have e2 := y vs (SqL.of h1)
    rw [e1] at e2; cases e2
    exact ⟨_, List.getElem?_eq_getElem hi, r, m, Fm.refl _ _ _⟩
theorem srv_new {K : PySem.W.Frag} {a : Addr} {ds : List D} : Srv K (Itl K a) ds (fun _ => True) (fun H S F => ∃ vs, H a = some (.lst vs) ∧ S a = none ∧ F a = none ∧ Reps K H ds vs) where
  bk := fun S F H S' F' H' m f ⟨vs, h1, h2, h3, h4⟩ => by
    obtain ⟨z1, z2, z3⟩ := f.cl h1 h2 h3
    exact ⟨vs, z1, z2, z3, Reps.kp (f.kp m) _ _ h4⟩
  go := fun i S F H hi ⟨vs, h1, _, _, h2⟩ m _ => ⟨vs, vs[i]'(by rw [← h2.length]; exact hi), SqL.of h1, by simp⟩
  stop := fun S F H ⟨vs, h1, _, _, h2⟩ m _ => ⟨vs, SqL.of h1, by rw [h2.length]; exact Nat.le_refl _⟩
  yld := fun i S F H x H' ⟨vs, h1, _, _, h2⟩ m _ ⟨e', y⟩ hi => by
    subst e'
    obtain ⟨v, e1, r⟩ := h2.get (List.getElem?_eq_getElem hi)
    have e2 := y vs (SqL.of h1)
    rw [e1] at e2; cases e2
    exact ⟨_, List.getElem?_eq_getElem hi, r, m, Fm.refl _ _ _⟩
theorem srv_rng {K : PySem.W.Frag} {lo : Int} {n : Nat} : Srv K (Itr lo n) (rngD lo n) (fun _ => True) (fun _ _ _ => True) where
  bk := fun _ _ _ _ _ _ _ _ _ => True.intro
  go := fun i S F H hi _ m _ => by
    have hi' : i < n := by simpa [rngD] using hi
    exact hi'
  stop := fun S F H _ m _ => by
    have e : (rngD lo n).length = n := by simp [rngD]
    rw [e]
    exact Nat.le_refl _
  yld := fun i S F H x H' _ m _ ⟨e', y⟩ hi => by
    subst e' y
    have hi' : i < n := by simpa [rngD] using hi
    exact ⟨.int (lo + i), by simp [rngD, hi'], rfl, m, Fm.refl _ _ _⟩
theorem dpi_tup (hl : PEd X W e w) : PId X W tg e (iTp w) := PI.imp (pi_tup hl) fun σ H R ⟨σD, S, F, QD, ED, sl, m, h, k, kx⟩ => by
  refine ⟨σD, S, F, _, ED, sl, m, h, fun v H1 d S1 F1 r1 m1 f1 h1 => ?_, kx⟩
  cases d <;> first | exact h1.elim | skip
  obtain ⟨a, vs, rfl, t, r⟩ := r1
  exact ⟨a, rfl, ⟨vs, t⟩, k _ H1 _ _ _ S1 F1 srv_tup ⟨vs, t, r⟩ m1 f1 h1⟩
theorem dpi_lst (hl : PEd X W e w) : PId X W tg e (iLs w) := PI.imp (pi_list hl) fun σ H R ⟨σD, S, F, QD, ED, sl, m, h, k, kx⟩ => by
  refine ⟨σD, S, F, _, ED, sl, m, h, fun v H1 d S1 F1 r1 m1 f1 h1 => ?_, kx⟩
  cases d <;> first | exact h1.elim | skip
  rename_i a
  dsimp only at h1
  split at h1
  · rename_i xs e1
    cases r1
    obtain ⟨vs, h2, h3⟩ := m1.obj _ _ e1
    exact ⟨a, rfl, ⟨vs, SqL.of h2⟩, k _ H1 _ _ _ S1 F1 srv_lst True.intro m1 f1 h1⟩
  · exact h1.elim
theorem dpi_new (hl : PLd X W e ws) : PId X W tg e (iNw ws) := PI.imp (pi_list hl) fun σ H R ⟨σD, S, F, QD, ED, sl, m, h, k, kx⟩ => by
  refine ⟨σD, S, F, _, ED, sl, m, h, fun p vs H1 ds S1 F1 q1 q2 q3 n r1 m1 f1 h1 => ?_, kx⟩
  exact ⟨p, rfl, ⟨vs, SqL.of q1⟩, k _ H1 _ _ _ S1 F1 srv_new ⟨vs, q1, q2, q3, r1⟩ m1 f1 h1⟩
theorem dpi_r1 {p : Pos} (hg : Gl X "range") (hm : X.mg "range" = none) (ha : PAd X W [e] ws) (hs : starEach [e] X.env = [(false, eval e X.env)] := by rfl) : PId X W tg (.Call (.Name "range" p) [e] [] pos) (iR1 ws) := PI.imp (pi_range1 hg hm ha hs) fun σ H R ⟨σD, S, F, QD, ED, sl, m, h, k, kx⟩ => by
  refine ⟨σD, S, F, _, ED, sl, m, h, fun vs H1 ds S1 F1 r1 m1 f1 h1 => ?_, kx⟩
  dsimp only at h1
  split at h1
  · rename_i j
    obtain ⟨v, vr, rfl, rv, rfl⟩ := r1
    cases rv
    exact ⟨j, rfl, h1.1.1, h1.1.2, k _ H1 _ _ _ S1 F1 srv_rng True.intro m1 f1 h1.2⟩
  · exact h1.elim
theorem dpi_r2 {p : Pos} {e2 : Expr} (hg : Gl X "range") (hm : X.mg "range" = none) (ha : PAd X W [e, e2] ws) (hs : starEach [e, e2] X.env = [(false, eval e X.env), (false, eval e2 X.env)] := by rfl) (hs2 : starEach [e2] X.env = [(false, eval e2 X.env)] := by rfl) : PId X W tg (.Call (.Name "range" p) [e, e2] [] pos) (iR2 ws) := PI.imp (pi_range2 hg hm ha hs hs2) fun σ H R ⟨σD, S, F, QD, ED, sl, m, h, k, kx⟩ => by
  refine ⟨σD, S, F, _, ED, sl, m, h, fun vs H1 ds S1 F1 r1 m1 f1 h1 => ?_, kx⟩
  dsimp only at h1
  split at h1
  · rename_i i j
    obtain ⟨v, vr, rfl, rv, v2, vr2, rfl, rv2, rfl⟩ := r1
    cases rv; cases rv2
    exact ⟨i, j, rfl, h1.1, k _ H1 _ _ _ S1 F1 srv_rng True.intro m1 f1 h1.2⟩
  · exact h1.elim

/-! ### for -/
def forW (St : Store → Prop) (g : DG) (b : DS) : List D → DS
  | [] => fun D σ S => St S ∧ D.nx σ S
  | d :: ds => fun D σ S => St S ∧ g d σ S (fun σ1 S1 => b { D with nx := forW St g b ds D, ct := forW St g b ds D, bk := D.nx } σ1 S1)
def wFor (wi : DI) (g : DG) (b : DS) : DS := fun D σ S => wi σ S (fun ds St S' => forW St g b ds D σ S') (fun e S' => D.ex e σ S')
theorem dps_for {wi : DI} (hp : PassesOwn (model X.prog X.w) X.A X.env X.xe) (hc : X.calm = true) (hi : PId X W tg e wi) (hg : PGd X vs tg g) (hb : PSsd X W body t)
    (hs : ∀ x, foldedSetIterable e X.env x = pure x := by intro _; rfl) : PSd X W (.For tg e body [] pos) (wFor wi g t) := PS.imp (ps_for hp hc hi hg hb hs) fun D σ H ⟨σD, S, F, DD, sl, m, h, k⟩ => by
  refine ⟨σD, S, F, _, _, sl, m, h, fun J H1 ds St B S1 F1 sv hB m1 f1 h1 => ?_, k.ex.ex m sl⟩
  refine ⟨fun i n σ' H' => n = ds.length - i ∧ i ≤ ds.length ∧ ∃ σD' S' F', SlR X.K H' σD' σ' ∧ Mod X.K H' S' F' ∧ B H' S' F' ∧ Fm S F H S' F' H' ∧ forW St g t (ds.drop i) DD σD' S',
    ⟨_, rfl, Nat.zero_le _, σD, S1, F1, sl.kp (f1.kp m), m1, hB, f1, h1⟩, ?_⟩
  rintro i n σ2 H2 ⟨rfl, hi, σD2, S2, F2, sl2, m2, hB2, f2, h2⟩
  by_cases hlt : i < ds.length
  · rw [List.drop_eq_getElem_cons hlt] at h2
    obtain ⟨hSt, h2⟩ := h2
    refine .inr ⟨sv.go i S2 F2 H2 hlt hB2 m2 hSt, fun σ' H' => ∃ σD' S' F', SlR X.K H' σD' σ' ∧ Mod X.K H' S' F' ∧ B H' S' F' ∧ Fm S F H S' F' H' ∧ forW St g t (ds.drop (i + 1)) DD σD' S',
      fun σ' H' q => ⟨ds.length - (i + 1), by omega, rfl, hlt, q⟩, fun x H3 y => ?_⟩
    obtain ⟨d, e1, r3, m3, f3⟩ := sv.yld i S2 F2 H2 x H3 hB2 m2 hSt y hlt
    rw [List.getElem?_eq_getElem hlt] at e1; cases e1
    have hB3 := sv.bk _ _ _ _ _ _ m2 f3 hB2
    refine ⟨_, σD2, S2, F2, _, r3, sl2.kp (f3.kp m2), m3, h2, fun σ4 H4 σD4 S4 F4 _ _ sl4 m4 f4 h4 => ?_⟩
    have ff := (f2.trans f3).trans f4
    have hB4 := sv.bk _ _ _ _ _ _ m3 f4 hB3
    have nxt : PostS X.K S4 F4 H4 (forW St g t (ds.drop (i + 1)) DD) (fun σ' H' => ∃ σD' S' F', SlR X.K H' σD' σ' ∧ Mod X.K H' S' F' ∧ B H' S' F' ∧ Fm S F H S' F' H' ∧ forW St g t (ds.drop (i + 1)) DD σD' S') :=
      fun σ5 H5 σD5 S5 F5 sl5 m5 f5 q5 => ⟨σD5, S5, F5, sl5, m5, sv.bk _ _ _ _ _ _ m4 f5 hB4, ff.trans f5, q5⟩
    exact ⟨σD4, S4, F4, _, sl4, m4, h4, ⟨nxt, k.rt.after ff, k.nx.after ff, nxt, k.ex.after ff⟩⟩
  · have e0 : i = ds.length := by omega
    subst e0
    rw [List.drop_length] at h2
    exact .inl ⟨sv.stop S2 F2 H2 hB2 m2 h2.1, k.nx σ2 H2 σD2 S2 F2 sl2 m2 f2 h2.2⟩

/-! ### comprehensions -/
def wipeD (σ : DSt) : List Nat → DSt
  | [] => σ
  | v :: vs => (wipeD σ vs).set v none
theorem wipeD_length (σ : DSt) : ∀ vs : List Nat, (wipeD σ vs).length = σ.length
  | [] => rfl
  | v :: vs => by unfold wipeD; rw [List.length_set, wipeD_length σ vs]
theorem wipeD_some {σ : DSt} {i : Nat} {x : D} : ∀ {vs : List Nat}, (wipeD σ vs)[i]? = some (some x) → σ[i]? = some (some x) ∧ i ∉ vs
  | [], h => ⟨h, by simp⟩
  | v :: vs, h => by
    unfold wipeD at h
    by_cases hi : v = i
    · subst hi
      by_cases hv : v < (wipeD σ vs).length
      · rw [List.getElem?_set_self hv] at h; cases h
      · rw [List.getElem?_eq_none (by simpa using hv)] at h; cases h
    · rw [List.getElem?_set_ne hi] at h
      obtain ⟨h1, h2⟩ := wipeD_some h
      exact ⟨h1, by simp only [List.mem_cons, not_or]; exact ⟨fun e => hi e.symm, h2⟩⟩
theorem wipe_get {σ : L2.St} {i : Nat} : ∀ {vs : List Nat}, i ∉ vs → (wipe σ vs)[i]? = σ[i]?
  | [], _ => rfl
  | v :: vs, h => by
    unfold wipe
    rw [List.getElem?_set_ne (fun e => by subst e; exact h List.mem_cons_self), wipe_get (fun z => h (List.mem_cons_of_mem _ z))]
theorem wipe_in {σ : L2.St} {i : Nat} : ∀ {vs : List Nat}, i ∈ vs → (wipe σ vs)[i]? = if i < σ.length then some none else none
  | [], h => by cases h
  | v :: vs, h => by
    unfold wipe
    by_cases e : v = i
    · subst e
      by_cases hl : v < σ.length
      · rw [List.getElem?_set_self (by rw [wipe_length]; exact hl), if_pos hl]
      · rw [List.getElem?_eq_none (by rw [List.length_set, wipe_length]; omega), if_neg hl]
    · rw [List.getElem?_set_ne e]
      exact wipe_in ((List.mem_cons.mp h).resolve_left (fun z => e z.symm))
theorem wipe_eq {σ σ' : L2.St} {vs : List Nat} (h : ∀ j, j ∉ vs → σ'[j]? = σ[j]?) (hl : σ'.length = σ.length) : wipe σ' vs = wipe σ vs := by
  apply List.ext_getElem?
  intro j
  by_cases hj : j ∈ vs
  · rw [wipe_in hj, wipe_in hj, hl]
  · rw [wipe_get hj, wipe_get hj, h j hj]
theorem SlR.wipe {K : PySem.W.Frag} {H : Hp} {σD : DSt} {σ : L2.St} (sl : SlR K H σD σ) (vs : List Nat) : SlR K H (wipeD σD vs) (L2.wipe σ vs) := ⟨by rw [wipeD_length, wipe_length]; exact sl.len, fun i d e => by
  obtain ⟨h1, h2⟩ := wipeD_some e
  obtain ⟨v, h3, h4⟩ := sl.at_ i d h1
  exact ⟨v, by rw [wipe_get h2]; exact h3, h4⟩⟩
theorem wipe_wipe (σ : L2.St) (vs : List Nat) : L2.wipe (L2.wipe σ vs) vs = L2.wipe σ vs := wipe_eq (fun j hj => wipe_get hj) (wipe_length _ _)
def lcW (St : Store → Prop) (g : DG) (t : DT) (e : DE) (σ : DSt) : List D → List D → Store → (List D → Store → Prop) → Prop
  | [], acc, S, Q => St S ∧ Q acc S
  | d :: ds, acc, S, Q => St S ∧ g d σ S (fun σ1 S1 => t σ1 S1 (fun b S2 => if b = true then e σ1 S2 (fun y S3 => acc.length < sizeLine ∧ lcW St g t e σ ds (acc ++ [y]) S3 Q) XF else lcW St g t e σ ds acc S2 Q) XF)
def wLc (wi : DI) (g : DG) (t : DT) (e : DE) (vs : List Nat) : DA := fun σ S Q E => wi σ S (fun ds St S' => lcW St g t e (wipeD σ vs) ds [] S' Q) E
abbrev WF : WX := fun _ _ _ _ => False
abbrev PTsd (X : Cx) (W : WX) (e : List Expr) (w : DT) : Prop := PTs X e (upT X.K X.mg W w)
def wYes : DT := fun _ S Q _ => Q true S
theorem PTs.imp {es : List Expr} {t t' : TT} (h : PTs X es t) (k : ∀ σ H Q, t' σ H Q → t σ H Q) : PTs X es t' := ⟨fun pins s σ H Q I q => h.run pins s σ H Q I (k σ H Q q)⟩
theorem dpts_nil : PTsd X W [] wYes := PTs.imp pts_nil fun σ H Q ⟨σD, S, F, QD, ED, sl, m, h, k, kx⟩ => k true H S F m (Fm.refl S F H) h
theorem dpts_one (h : PTd X W c wt) : PTsd X W [c] wt := pts_one h
theorem lc_imp {wi : DI} {K : PySem.W.Frag} {mg : Str → Option Value} {σ : L2.St} {H : Hp} {Q : VK} (h : upL K mg W (wLc wi g wt w vs) σ H Q) : tLc (upI K mg W wi) (upG K vs g) (upT K mg WF wt) (up K mg WF w) vs σ H Q := by
  obtain ⟨σD, S, F, QD, ED, sl, m, h, k, kx⟩ := h
  refine ⟨σD, S, F, _, ED, sl, m, h, fun J H1 ds St B S1 F1 sv hB m1 f1 h1 D hD => ?_, kx⟩
  obtain ⟨sD, fD⟩ := m1.fresh hD
  have nwD1 : Nw S1 F1 H1 D := .inr (.inr hD)
  have nwD : Nw S F H D := Nw.back f1 nwD1
  let P : Nat → Hp → Prop := fun i H' => ∃ S' F' acc vacc, Mod K H' S' F' ∧ H' D = some (.lst vacc) ∧ S' D = none ∧ F' D = none ∧ Reps K H' acc vacc ∧ Fm S1 F1 H1 S' F' H' ∧ lcW St g wt w (wipeD σD vs) (ds.drop i) acc S' QD
  refine ⟨fun i n H' => n = ds.length - i ∧ i ≤ ds.length ∧ P i H', ⟨_, rfl, Nat.zero_le _, S1, F1, [], [], m1.laid hD, upd_same, sD, fD, rfl, Fm.laid hD, h1⟩, ?_⟩
  rintro i n H2 ⟨rfl, hi, S2, F2, acc, vacc, m2, hD2, sD2, fD2, ra, f2, h2⟩
  have hB2 := sv.bk _ _ _ _ _ _ m1 f2 hB
  by_cases hlt : i < ds.length
  · rw [List.drop_eq_getElem_cons hlt] at h2
    obtain ⟨hSt, h2⟩ := h2
    refine .inr ⟨sv.go i S2 F2 H2 hlt hB2 m2 hSt, P (i + 1), fun H' q => ⟨ds.length - (i + 1), by omega, rfl, hlt, q⟩, fun x H3 y => ?_⟩
    obtain ⟨d, e1, r3, m3, f3⟩ := sv.yld i S2 F2 H2 x H3 hB2 m2 hSt y hlt
    rw [List.getElem?_eq_getElem hlt] at e1; cases e1
    have ff3 := (f1.trans f2).trans f3
    refine ⟨_, wipeD σD vs, S2, F2, _, r3, (sl.wipe vs).kp (ff3.kp m), m3, h2, fun σ4 H4 σD4 S4 F4 o4 l4 sl4 m4 f4 h4 => ?_⟩
    refine ⟨by rw [wipe_eq o4 l4, wipe_wipe], σD4, S4, F4, _, _, sl4, m4, h4, fun b H5 S5 F5 m5 f5 h5 => ?_, fun _ _ _ _ _ _ _ _ _ z => z.elim⟩
    have f35 := (f3.trans f4).trans f5
    obtain ⟨z1, z2, z3⟩ := f35.cl hD2 sD2 fD2
    cases b with
    | false => exact ⟨S5, F5, acc, vacc, m5, z1, z2, z3, Reps.kp (f35.kp m2) _ _ ra, f2.trans f35, h5⟩
    | true =>
      refine ⟨σD4, S5, F5, _, _, sl4.kp (f5.kp m4), m5, h5, fun yv H6 yd S6 F6 r6 m6 f6 h6 => ?_, fun _ _ _ _ _ _ _ _ _ z => z.elim⟩
      have f36 := f35.trans f6
      obtain ⟨y1, y2, y3⟩ := f36.cl hD2 sD2 fD2
      have ra6 := Reps.kp (f36.kp m2) _ _ ra
      have kD : Kp H6 (upd H6 D (.lst (vacc ++ [yv]))) := kp_mut (NoT.lst y1)
      have m7 : Mod K (upd H6 D (.lst (vacc ++ [yv]))) S6 F6 := by
        refine ⟨fun b v q => (m6.obj b v q).other kD (fun z => by rw [z, y2] at q; cases q) (by rw [y3]; simp), fun l b q => ?_⟩
        obtain ⟨a1, a2⟩ := m6.hid l b q
        have nl : l ≠ D := fun z => by rw [z, y3] at q; cases q
        exact ⟨a1, a2.upd nl⟩
      exact ⟨vacc, y1, by rw [← ra6.length]; exact h6.1, S6, F6, acc ++ [yd], vacc ++ [yv], m7, upd_same, y2, y3, Reps.kp kD _ _ (ra6.append (Reps.one r6)), (f2.trans f36).over nwD1, h6.2⟩
  · have e0 : i = ds.length := by omega
    subst e0
    rw [List.drop_length] at h2
    exact .inl ⟨sv.stop S2 F2 H2 hB2 m2 h2.1, k D vacc H2 acc S2 F2 hD2 sD2 fD2 nwD ra m2 (f1.trans f2) h2.2⟩
theorem dpl_lc {elt it : Expr} {ifs : List Expr} {scope : Scope} {own : List (Str × Nat)} {wi : DI} (hc : X.calm = true) (hN : X.N.Nodup) (hi : PId X W tg it wi) (ok : BlkOk X.N X.env.scope scope own)
    (hg : ∀ (s : Shared) (H : Hp) (C : Addr) (cl : List (Str × Addr)) (fp : List Addr), PGd (X.blk s H scope (compEnvC scope cl C X.env) fp) (own.map (·.2)) tg g) (ht : ∀ (s : Shared) (H : Hp) (C : Addr) (cl : List (Str × Addr)) (fp : List Addr), PTsd (X.blk s H scope (compEnvC scope cl C X.env) fp) WF ifs wt)
    (he : ∀ (s : Shared) (H : Hp) (C : Addr) (cl : List (Str × Addr)) (fp : List Addr), PEd (X.blk s H scope (compEnvC scope cl C X.env) fp) WF elt w) (hs : ∀ x, foldedSetIterable it X.env x = pure x := by intro _; rfl) :
    PLd X W (.ListComp elt [⟨tg, it, ifs, 0⟩] scope pos) (wLc wi g wt w (own.map (·.2))) :=
  PE.imp (pe_lc hc hN hi ok hg ht he hs) fun _ _ _ h => lc_imp h
/-- name = [..], on one line: the store is within the comprehension's frame -/
theorem dps_setLc {i : Nat} {y : Str} {py : Pos} {elt it : Expr} {ifs : List Expr} {scope : Scope} {own : List (Str × Nat)} {spos : Pos} {wi : DI} (hc : X.calm = true) (hN : X.N.Nodup) (hy : X.N[i]? = some y) (hyl : X.env.scope.names.lookup y = some .local)
    (hsw : swapsWith (.ListComp elt [⟨tg, it, ifs, 0⟩] scope pos) (some (.Name y py)) spos.line X.env = pure true) (hi : PId X W tg it wi) (ok : BlkOk X.N X.env.scope scope own)
    (hg : ∀ (s : Shared) (H : Hp) (C : Addr) (cl : List (Str × Addr)) (fp : List Addr), PGd (X.blk s H scope (compEnvC scope cl C X.env) fp) (own.map (·.2)) tg g) (ht : ∀ (s : Shared) (H : Hp) (C : Addr) (cl : List (Str × Addr)) (fp : List Addr), PTsd (X.blk s H scope (compEnvC scope cl C X.env) fp) WF ifs wt)
    (he : ∀ (s : Shared) (H : Hp) (C : Addr) (cl : List (Str × Addr)) (fp : List Addr), PEd (X.blk s H scope (compEnvC scope cl C X.env) fp) WF elt w) (hs : ∀ x, foldedSetIterable it X.env x = pure x := by intro _; rfl) :
    PSd X W (.Assign [.Name y py] (.ListComp elt [⟨tg, it, ifs, 0⟩] scope pos) spos) (wAsg (wNew (wLc wi g wt w (own.map (·.2)))) (gNm i)) :=
  PS.imp (ps_setLc hc hN hy hyl hsw hi ok hg ht he hs) fun D σ H ⟨σD, S, F, DD, sl, m, h, k⟩ => by
    refine lc_imp (Q := fun x H1 => gName i x σ H1 D.nx) ⟨σD, S, F, _, _, sl, m, h, fun p vs H1 ds S1 F1 h1 h2 h3 n r1 m1 f1 q => ?_, k.ex.ex m sl⟩
    exact k.nx _ H1 _ (sup S1 p (.lst ds)) F1 ((sl.kp (f1.kp m)).set i (d := .ref p) rfl) (m1.adopt h2 h3 ⟨vs, h1, r1⟩) (f1.adopt n) (q p h2)
end
end DL
/-! ## DL6 -/
namespace DL
open PySem PySem.Spec PyProof.Rows L2
theorem SqF.sq {K : PySem.W.Frag} {H : Hp} {p : Addr} {xs : List V} (h : SqF K H p xs) : SqL K H p xs := by
  rcases h with ⟨o, h⟩ | h | h
  · exact .inl (.inr ⟨o, h⟩)
  · rcases h with h | ⟨o, h⟩ <;> cases h
  · exact .inr h
theorem SqL.split {K : PySem.W.Frag} {H : Hp} {p : Addr} {xs : List V} (h : SqL K H p xs) : H p = some (.lst xs) ∨ SqF K H p xs := by
  rcases h with (h | ⟨o, h⟩) | h
  · exact .inl h
  · exact .inr (.inl ⟨o, h⟩)
  · exact .inr (.inr (.inr h))

/-! ### built-ins by values -/
def dAny (ds : List D) (S : Store) (Q : DK) : Prop := ∃ bs : List Bool, ds = bs.map D.bl ∧ Q (.bl (bs.any id)) S
def dAll (ds : List D) (S : Store) (Q : DK) : Prop := ∃ bs : List Bool, ds = bs.map D.bl ∧ Q (.bl (bs.all id)) S
def dSum (ds : List D) (S : Store) (Q : DK) : Prop := ∃ ns : List Int, ds = ns.map D.int ∧ Q (.int ns.sum) S
def dMaxL (ds : List D) (S : Store) (Q : DK) : Prop := ∃ ns : List Int, ds = ns.map D.int ∧ 0 < ns.length ∧ ∀ m, m ∈ ns → (∀ y, y ∈ ns → y ≤ m) → Q (.int m) S
def dMinL (ds : List D) (S : Store) (Q : DK) : Prop := ∃ ns : List Int, ds = ns.map D.int ∧ 0 < ns.length ∧ ∀ m, m ∈ ns → (∀ y, y ∈ ns → m ≤ y) → Q (.int m) S
def dTupOf (ds : List D) (S : Store) (Q : DK) : Prop := Q (.tup ds) S
def dLenL (ds : List D) (S : Store) (Q : DK) : Prop := Q (.int (ds.length : Nat)) S
def dListOf (ds : List D) (S : Store) (Q : List D → Store → Prop) : Prop := Q ds S
section
variable {K : PySem.W.Frag}
theorem lc_any : LCV K (rAny K) dAny := by
  intro p vs H ds S F QD Q q r m ⟨bs, e, h⟩ k
  subst e
  have e := r.bls
  subst e
  exact ⟨p, bs, rfl, q, k (.bl _) H (.bl _) S F rfl m (Fm.refl S F H) h⟩
theorem lc_all : LCV K (rAll K) dAll := by
  intro p vs H ds S F QD Q q r m ⟨bs, e, h⟩ k
  subst e
  have e := r.bls
  subst e
  exact ⟨p, bs, rfl, q, k (.bl _) H (.bl _) S F rfl m (Fm.refl S F H) h⟩
theorem lc_sum : LCV K (rSum K) dSum := by
  intro p vs H ds S F QD Q q r m ⟨bs, e, h⟩ k
  subst e
  have e := r.ints
  subst e
  exact ⟨p, bs, rfl, q, k (.int _) H (.int _) S F rfl m (Fm.refl S F H) h⟩
theorem lc_max : LCV K (rMax K) dMaxL := by
  intro p vs H ds S F QD Q q r m ⟨bs, e, h1, h2⟩ k
  subst e
  have e := r.ints
  subst e
  exact ⟨p, bs, rfl, q, h1, fun y a b => k (.int _) H (.int _) S F rfl m (Fm.refl S F H) (h2 y a b)⟩
theorem lc_min : LCV K (rMin K) dMinL := by
  intro p vs H ds S F QD Q q r m ⟨bs, e, h1, h2⟩ k
  subst e
  have e := r.ints
  subst e
  exact ⟨p, bs, rfl, q, h1, fun y a b => k (.int _) H (.int _) S F rfl m (Fm.refl S F H) (h2 y a b)⟩
theorem lc_tup : LCV K (fun xs H Q => ∃ p ys, xs = [.ref p] ∧ ((SqL K H p ys ∧ ∀ l, H l = none → Q (.ref l) (upd H l (.tup ys))) ∨ (SqT K H p ys ∧ Q (.ref p) H))) dTupOf := by
  intro p vs H ds S F QD Q q r m h k
  exact ⟨p, vs, rfl, .inl ⟨q, fun l hl => k (.ref l) _ (.tup ds) S F ⟨l, vs, rfl, .inl (.inl upd_same), Reps.kp (kp_new hl) _ _ r⟩ (m.laid hl) (Fm.laid hl) h⟩⟩
theorem lc_lenL : LCV K (fun xs H Q => ∃ p ys, xs = [.ref p] ∧ (SqL K H p ys ∨ SqT K H p ys) ∧ Q (.int ys.length) H) dLenL := by
  intro p vs H ds S F QD Q q r m h k
  exact ⟨p, vs, rfl, .inl q, k (.int _) H (.int _) S F (by rw [← r.length]; rfl) m (Fm.refl S F H) h⟩
theorem lc_listL : LCL K (fun xs H Q => ∃ p ys, xs = [.ref p] ∧ (SqL K H p ys ∨ SqT K H p ys) ∧ ∀ l, H l = none → Q (.ref l) (upd H l (.lst ys))) dListOf := by
  intro p vs H ds S F QD Q q r m h k
  refine ⟨p, vs, rfl, .inl q, fun l hl => ?_⟩
  obtain ⟨hs, hf⟩ := m.fresh hl
  exact k l vs _ ds S F upd_same hs hf (.inr (.inr hl)) (Reps.kp (kp_new hl) _ _ r) (m.laid hl) (Fm.laid hl) h
def dLen (ds : List D) (S : Store) (Q : DK) : Prop := match ds with
  | [.tup xs] => Q (.int (xs.length : Nat)) S
  | [.str z] => z.length ≤ sizeLine ∧ Q (.int (z.length : Nat)) S
  | [.rl xs] => Q (.int (xs.length : Nat)) S
  | [.ref a] => (match S a with | some (.lst xs) => Q (.int (xs.length : Nat)) S | _ => False)
  | _ => False
theorem lc_len : LCA K (fun xs H Q => ∃ x n, xs = [x] ∧ LenV K x H n ∧ Q (.int n) H) dLen := by
  intro vs H ds S F QD Q r m h k
  unfold dLen at h
  split at h
  · obtain ⟨v, vr, rfl, ⟨p, ws, rfl, t, r1⟩, rfl⟩ := r
    exact ⟨.ref p, _, rfl, .inr ⟨ws, t, rfl⟩, k (.int _) H (.int _) S F (by rw [← r1.length]; rfl) m (Fm.refl S F H) h⟩
  · obtain ⟨v, vr, rfl, r1, rfl⟩ := r
    cases r1
    exact ⟨.str _, _, rfl, ⟨h.1, rfl⟩, k (.int _) H (.int _) S F rfl m (Fm.refl S F H) h.2⟩
  · obtain ⟨v, vr, rfl, ⟨p, ws, rfl, t, r1⟩, rfl⟩ := r
    exact ⟨.ref p, _, rfl, .inl ⟨ws, SqF.sq t, rfl⟩, k (.int _) H (.int _) S F (by rw [← r1.length]; rfl) m (Fm.refl S F H) h⟩
  · obtain ⟨v, vr, rfl, r1, rfl⟩ := r
    cases r1
    split at h
    · rename_i xs e
      obtain ⟨ws, h1, h2⟩ := m.obj _ _ e
      exact ⟨.ref _, _, rfl, .inl ⟨ws, SqL.of h1, rfl⟩, k (.int _) H (.int _) S F (by rw [← h2.length]; rfl) m (Fm.refl S F H) h⟩
    · exact h.elim
  · exact h.elim
def dMax2 (ds : List D) (S : Store) (Q : DK) : Prop := match ds with | [.int i, .int j] => Q (.int (if j > i then j else i)) S | _ => False
def dMin2 (ds : List D) (S : Store) (Q : DK) : Prop := match ds with | [.int i, .int j] => Q (.int (if j < i then j else i)) S | _ => False
theorem lc_max2 : LCA K (fun xs H Q => ∃ i j, xs = [.int i, .int j] ∧ Q (.int (if j > i then j else i)) H) dMax2 := by
  intro vs H ds S F QD Q r m h k
  unfold dMax2 at h
  split at h
  · rename_i i j
    obtain ⟨v, vr, rfl, r1, v2, vr2, rfl, r2, rfl⟩ := r
    cases r1; cases r2
    exact ⟨i, j, rfl, k (.int _) H (.int _) S F rfl m (Fm.refl S F H) h⟩
  · exact h.elim
theorem lc_min2 : LCA K (fun xs H Q => ∃ i j, xs = [.int i, .int j] ∧ Q (.int (if j < i then j else i)) H) dMin2 := by
  intro vs H ds S F QD Q r m h k
  unfold dMin2 at h
  split at h
  · rename_i i j
    obtain ⟨v, vr, rfl, r1, v2, vr2, rfl, r2, rfl⟩ := r
    cases r1; cases r2
    exact ⟨i, j, rfl, k (.int _) H (.int _) S F rfl m (Fm.refl S F H) h⟩
  · exact h.elim
def dIntOf (ds : List D) (S : Store) (Q : DK) : Prop := match ds with | [.int i] => Q (.int i) S | [.bl b] => Q (.int (if b then 1 else 0)) S | _ => False
theorem lc_int : LCA K (fun xs H Q => (∃ i, xs = [.int i] ∧ Q (.int i) H) ∨ ∃ k, xs = [.bl k] ∧ Q (.int (if k then 1 else 0)) H) dIntOf := by
  intro vs H ds S F QD Q r m h k
  unfold dIntOf at h
  split at h
  · rename_i i
    obtain ⟨v, vr, rfl, r1, rfl⟩ := r
    cases r1
    exact .inl ⟨i, rfl, k (.int _) H (.int _) S F rfl m (Fm.refl S F H) h⟩
  · rename_i i
    obtain ⟨v, vr, rfl, r1, rfl⟩ := r
    cases r1
    exact .inr ⟨i, rfl, k (.int _) H (.int _) S F rfl m (Fm.refl S F H) h⟩
  · exact h.elim
def dStrOf (ds : List D) (S : Store) (Q : DK) : Prop := match ds with | [.int i] => i.natAbs.log2 < 1920 ∧ Q (.str (toString i)) S | _ => False
theorem lc_str : LCA K (fun xs H Q => ∃ i, xs = [.int i] ∧ i.natAbs.log2 < 1920 ∧ Q (.str (toString i)) H) dStrOf := by
  intro vs H ds S F QD Q r m h k
  unfold dStrOf at h
  split at h
  · rename_i i
    obtain ⟨v, vr, rfl, r1, rfl⟩ := r
    cases r1
    exact ⟨i, rfl, h.1, k (.str _) H (.str _) S F rfl m (Fm.refl S F H) h.2⟩
  · exact h.elim
/-- tuple(t), t a tuple -/
def dListT (ds : List D) (S : Store) (Q : List D → Store → Prop) : Prop := match ds with
  | [.tup xs] => Q xs S
  | [.rl xs] => Q xs S
  | [.ref a] => (match S a with | some (.lst xs) => Q xs S | _ => False)
  | _ => False
end
def wALL (a : DA) (r : List D → Store → (List D → Store → Prop) → Prop) : DA := fun σ S Q E => a σ S (fun xs S1 => r xs S1 Q) E

/-! ### isinstance -/
def kindD (S : Store) : D → Option String
  | .non => some "NoneType" | .bl _ => some "bool" | .int _ => some "int" | .str _ => some "str" | .tup _ => some "tuple"
  | .ref a => match S a with | some (.lst _) => some "list" | some .box => some "list" | some (.dic _) => some "dict" | some (.dit _) => some "dict" | _ => none
  | _ => none
def isaB (a b : String) : Bool := a == b || (a == "bool" && b == "int")
def wIsa (w : DE) (T : String) : DE := fun σ S Q E => w σ S (fun d S1 => match kindD S1 d with | some k => Q (.bl (isaB k T)) S1 | none => False) E
theorem kind_ty {K : PySem.W.Frag} {H : Hp} {S : Store} {F : Own} (m : Mod K H S F) : ∀ {d : D} {v : V} {k : String}, Rep K H d v → kindD S d = some k → TyX K H v (.type k)
  | .non, _, _, r, e => by cases r; cases e; exact .base .non
  | .bl _, _, _, r, e => by cases r; cases e; exact .base (.bl _)
  | .int _, _, _, r, e => by cases r; cases e; exact .base (.int _)
  | .str _, _, _, r, e => by cases r; cases e; exact .base (.str _)
  | .tup _, _, _, ⟨p, vs, rfl, t, _⟩, e => by
    cases e
    rcases t with (t | ⟨o, t⟩) | ⟨o, its, n, t, c, _⟩
    · exact .base (.tup t)
    · exact .fTuple t
    · exact .kTuple t c
  | .ref a, _, _, r, e => by
    cases r
    unfold kindD at e
    dsimp only at e
    split at e
    · rename_i xs q
      cases e
      obtain ⟨vs, h, _⟩ := m.obj _ _ q
      exact .base (.lst h)
    · rename_i q
      cases e
      obtain ⟨l, z, ns, h, _⟩ := m.obj _ _ q
      exact .base (.lst h)
    · rename_i xs q
      cases e
      obtain ⟨vs, h, _⟩ := m.obj _ _ q
      exact .base (.dK h)
    · rename_i xs q
      cases e
      obtain ⟨vs, h, _⟩ := m.obj _ _ q
      exact .base (.dT h)
    · cases e
  | .fn _ _, _, _, _, e => nomatch e
  | .fnS _ _ _, _, _, _, e => nomatch e
  | .rl _, _, _, _, e => nomatch e
theorem kitB_all : ∀ a ∈ (["NoneType", "bool", "int", "str", "tuple", "list", "dict"] : List String), ∀ b ∈ (["bool", "int", "str", "tuple", "list", "dict"] : List String), kitB a b = some (isaB a b) := by decide +kernel
theorem kind_mem {S : Store} {d : D} {k : String} (e : kindD S d = some k) : k ∈ (["NoneType", "bool", "int", "str", "tuple", "list", "dict"] : List String) := by
  cases d with
  | ref a =>
    unfold kindD at e
    dsimp only at e
    split at e <;> first | (cases e; decide) | cases e
  | _ => first | (cases e; decide) | cases e
section
variable {X : Cx} {W : WX} {e : Expr} {es : List Expr} {w : DE} {ws : DA} {pos p : Pos} {x : Str}
theorem dpe_isa {T : String} {t : Str} {p2 : Pos} (hT : T ∈ (["bool", "int", "str", "tuple", "list", "dict"] : List String)) (hg : Gl X "isinstance") (hm : X.mg "isinstance" = none) (hv : bootBuiltins "isinstance" = some (.builtin "isinstance")) (hgT : Gl X t) (hmT : X.mg t = none) (hvT : bootBuiltins t = some (.type T)) (ha : PEd X W e w)
    (hn : t ≠ "__name__" := by decide) (hd : (t == ("__debug__" : Str)) = false := by decide)
    (he : starEach [e, .Name t p2] X.env = (false, eval e X.env) :: starEach [.Name t p2] X.env := by rfl) (hpl : (backTo pos (starEach [.Name t p2] X.env)).any (·.1) = false := by rfl) (he2 : starEach [.Name t p2] X.env = (false, eval (.Name t p2) X.env) :: starEach [] X.env := by rfl) :
    PEd X W (.Call (.Name "isinstance" p) [e, .Name t p2] [] pos) (wIsa w T) :=
  PE.imp (pe_callB call_isi hg hm hv (pa_cons ha (pa_cons (pe_bltn (v := .ty T) hgT hmT hvT rfl hn hd) pa_nil he2) he) (by decide) (by decide) he hpl) fun σ H Q ⟨σD, S, F, QD, ED, sl, m, h, k, kx⟩ => by
    refine ⟨σD, S, F, _, ED, sl, m, h, fun v H1 d S1 F1 r1 m1 f1 h1 => ?_, kx⟩
    dsimp only at h1
    split at h1
    · rename_i kd e1
      exact ⟨v, .ty T, .type kd, .type T, _, rfl, .ty T, kind_ty m1 r1 e1, kit_ty (kitB_all kd (kind_mem e1) T hT), k (.bl _) H1 (.bl _) S1 F1 rfl m1 f1 h1⟩
    · exact h1.elim
theorem all_imp {r : List V → Hp → VK → Prop} {rL : List D → Store → (List D → Store → Prop) → Prop} (hl : ∀ vs H ds S F QD Q, Reps X.K H ds vs → Mod X.K H S F → rL ds S QD → PostL X.K S F H QD Q → r vs H Q) {σ : L2.St} {H : Hp} {Q : VK} (h : upL X.K X.mg W (wALL ws rL) σ H Q) : tCB r (upA X.K X.mg W ws) σ H Q := by
  obtain ⟨σD, S, F, QD, ED, sl, m, h, k, kx⟩ := h
  exact ⟨σD, S, F, _, ED, sl, m, h, fun vs H1 ds S1 F1 r1 m1 f1 h1 => hl vs H1 ds S1 F1 QD Q r1 m1 h1 (k.after f1), kx⟩
/-- list(x): of a tuple, of a list of the store -/
theorem dpl_list (hg : Gl X "list") (hm : X.mg "list" = none) (hv : bootBuiltins "list" = some (.type "list")) (ha : PAd X W [e] ws)
    (he : starEach [e] X.env = (false, eval e X.env) :: starEach [] X.env := by rfl) : PLd X W (.Call (.Name "list" p) [e] [] pos) (wALL ws dListT) :=
  PE.imp (pe_callTy call_list_of hg hm hv ha (by decide) (by decide) he rfl) fun _ _ _ h => all_imp (fun vs H ds S F QD Q r m h k => by
    unfold dListT at h
    split at h
    · obtain ⟨v, vr, rfl, ⟨p, ws, rfl, t, r1⟩, rfl⟩ := r
      refine ⟨p, ws, rfl, .inr t, fun l hl => ?_⟩
      obtain ⟨hs, hf⟩ := m.fresh hl
      exact k l ws _ _ S F upd_same hs hf (.inr (.inr hl)) (Reps.kp (kp_new hl) _ _ r1) (m.laid hl) (Fm.laid hl) h
    · obtain ⟨v, vr, rfl, ⟨p, ws, rfl, t, r1⟩, rfl⟩ := r
      refine ⟨p, ws, rfl, .inl (SqF.sq t), fun l hl => ?_⟩
      obtain ⟨hs, hf⟩ := m.fresh hl
      exact k l ws _ _ S F upd_same hs hf (.inr (.inr hl)) (Reps.kp (kp_new hl) _ _ r1) (m.laid hl) (Fm.laid hl) h
    · obtain ⟨v, vr, rfl, r1, rfl⟩ := r
      cases r1
      split at h
      · rename_i xs e
        obtain ⟨ws, h1, h2⟩ := m.obj _ _ e
        refine ⟨_, ws, rfl, .inl (SqL.of h1), fun l hl => ?_⟩
        obtain ⟨hs, hf⟩ := m.fresh hl
        exact k l ws _ _ S F upd_same hs hf (.inr (.inr hl)) (Reps.kp (kp_new hl) _ _ h2) (m.laid hl) (Fm.laid hl) h
      · exact h.elim
    · exact h.elim) h

/-! ### defs -/
abbrev SpD := List D → Store → DK → XE → Prop
def upSp (K : PySem.W.Frag) (mg : Str → Option Value) (sp : SpD) : Sp := fun vs H Q E => ∃ ds S F QD ED, Reps K H ds vs ∧ Mod K H S F ∧ sp ds S QD ED ∧ Post K S F H QD Q ∧ PostX K mg S F H ED E
abbrev FnD (P : Program) (w : World) (K : PySem.W.Frag) (mg : Str → Option Value) (base : Heap) (k : Nat) (f : Addr) (fd : FuncData) (ps : List Str) (sp : SpD) : Prop := FnOk P w K mg base (L2.CX P w) k f fd ps (upSp K mg sp)
def wCall (a : DA) (sp : SpD) : DE := fun σ S Q E => a σ S (fun ds S1 => sp ds S1 Q E) E
theorem dpe_call {k : Nat} {f : Addr} {fd : FuncData} {ps : List Str} {sp : SpD} (G : FnD X.prog X.w X.K X.mg X.base k f fd ps sp) (hr : Room k X.A) (hg : Gl X x) (hm : X.mg x = some (.ref f)) (hk : PySem.W.keepIn X.K (.ref f) = true) (hb : Binds X.K fd ps []) (tk : Takes X W) (ha : PAd X W (e :: es) ws)
    (hdb : (x == ("__debug__" : Str)) = false := by decide) (he : starEach (e :: es) X.env = (false, eval e X.env) :: starEach es X.env := by rfl) (hpl : (backTo pos (starEach es X.env)).any (·.1) = false := by rfl) :
    PEd X W (.Call (.Name x p) (e :: es) [] pos) (wCall ws sp) :=
  PE.imp (pe_callS G hr hg hm hk hb (fun σ => passAt tk σ) ha hdb he hpl) fun σ H Q ⟨σD, S, F, QD, ED, sl, m, h, k, kx⟩ =>
    ⟨σD, S, F, _, ED, sl, m, h, fun vs H1 ds S1 F1 r1 m1 f1 h1 => ⟨ds, S1, F1, QD, ED, r1, m1, h1, k.after f1, kx.after f1⟩, kx⟩
def startD (N : List Str) (ds : List D) : DSt := ds.map some ++ List.replicate (N.length - ds.length) none
theorem SlR.start {K : PySem.W.Frag} {H : Hp} {N : List Str} {ds : List D} {vs : List V} (r : Reps K H ds vs) : SlR K H (startD N ds) (L2.start N vs) := by
  refine ⟨by unfold startD L2.start; rw [r.length.symm.symm]; simp [r.length], fun i d e => ?_⟩
  unfold startD at e
  by_cases hi : i < ds.length
  · rw [List.getElem?_append_left (by simpa using hi), List.getElem?_map] at e
    cases e2 : ds[i]? with
    | none => rw [e2] at e; cases e
    | some d' =>
      rw [e2] at e; cases e
      obtain ⟨v, h1, h2⟩ := r.get e2
      refine ⟨v, ?_, h2⟩
      unfold L2.start
      rw [List.getElem?_append_left (by simpa [← r.length] using hi), List.getElem?_map, h1]
      rfl
  · rw [List.getElem?_append_right (by simpa using hi), List.getElem?_replicate] at e
    split at e <;> cases e
theorem Fun.okD {P : Program} {w : World} {K : PySem.W.Frag} {mg : Str → Option Value} {base : Heap} {x qual : Str} {st : Stmt} {f : Addr} {fd : FuncData} {N ps : List Str} {k : Nat} {sp : SpD} (G : Fun K x qual st f fd) (Sc : FnScope N ps (defScope st)) (len : ∀ ds S Q E, sp ds S Q E → ds.length = ps.length)
    (hbody : ∀ (cdv : Value) (A : Around) (outer : List Env) (s : Shared) (H : Hp) (E : XK), Room k (A.deeper (envOfC qual (defScope st) s.heap.objs.size f cdv)) →
      ∃ t, PSsd (cxOf (L2.CX P w) P w K mg base N qual (defScope st) f cdv A outer s H E) (fun cls d _ H => E cls d H) (defBody st) t ∧
        ∀ ds S Q ED, sp ds S Q ED → t { nx := fun _ S' => Q .non S', rt := Q, ex := fun e _ S' => ED e S' } (startD N ds) S) : FnD P w K mg base (k + 1) f fd ps sp := by
  refine G.okX Sc (fun vs H Q E ⟨ds, S, F, QD, ED, r, m, h, _⟩ => by rw [← r.length]; exact len ds S QD ED h) fun cdv A outer s H vs Q E hr ⟨ds, S, F, QD, ED, r, m, h, k, kx⟩ => ?_
  obtain ⟨t, ht, hw⟩ := hbody cdv A outer s H E hr
  refine ⟨_, ht, startD N ds, S, F, _, SlR.start r, m, hw ds S QD ED h, ⟨fun σ' H' σD' S' F' _ m' f q => k .non H' .non S' F' rfl m' f q, k, fun _ _ _ _ _ _ _ _ z => z.elim, fun _ _ _ _ _ _ _ _ z => z.elim, fun cls dd σ' H' e σD' S' F' r' _ m' f q => kx cls dd H' e S' F' r' m' f q⟩⟩
/-- raise C('..'), C an own class without __init__ -/
def wRaise (c : Str) : DS := fun D σ S => D.ex ⟨c, none⟩ σ S
theorem dps_raise {C : Addr} {bmB : List Value} {B newId initId : String} {c m : Str} {j : Nat} {p2 p3 : Pos} (hc : X.calm = true) (tk : Takes X W) (G : ExcBaseFacts B newId initId bmB) (q : PySem.W.excIn X.K C bmB newId = true) (gC : X.mg c = some (.ref C)) (kC : PySem.W.keepIn X.K (.ref C) = true) (r : Raises X (.ref C)) (hg : Gl X c)
    (hdb : (c == ("__debug__" : Str)) = false := by decide) : PSd X W (.Raise (some (.Call (.Name c p) [.Constant (.str m) j p2] [] p3)) none pos) (wRaise c) :=
  PS.imp (ps_raise hc tk (pmk_own G q gC kC r hg hdb)) fun D σ H ⟨σD, S, F, DD, sl, m, h, k⟩ => k.ex _ _ σ H ⟨c, none⟩ σD S F ⟨gC, rfl⟩ sl m (Fm.refl S F H) h
end
/-- a def that is called by its name -/
structure Cal (P : Program) (w : World) (K : PySem.W.Frag) (mg : Str → Option Value) (base : Heap) (x : Str) (k : Nat) (ps : List Str) (sp : SpD) : Prop where
  ex : ∃ f fd, FnD P w K mg base k f fd ps sp ∧ mg x = some (.ref f) ∧ PySem.W.keepIn K (.ref f) = true ∧ Binds K fd ps []
structure Def (K : PySem.W.Frag) (mg : Str → Option Value) (x : Str) (st : Stmt) (ps : List Str) : Prop where
  ex : ∃ f fd, Fun K x x st f fd ∧ mg x = some (.ref f) ∧ Binds K fd ps []
structure Cst (K : PySem.W.Frag) (mg : Str → Option Value) (x : Str) (d : D) : Prop where
  ex : ∃ u v, mg x = some u ∧ RelV v u ∧ ∀ H, Rep K H d v
structure Exn (K : PySem.W.Frag) (mg : Str → Option Value) (x : Str) : Prop where
  ex : ∃ C, mg x = some (.ref C) ∧ PySem.W.excIn K C [.type "ValueError", .type "Exception", .type "BaseException", .type "object"] "ValueError.__new__" = true ∧ PySem.W.keepIn K (.ref C) = true ∧ PySem.W.subIn K (.ref C) (.type "BaseException") = some true ∧ PySem.W.typeIn K (.ref C) = some (.type "type")
theorem Def.cal {P : Program} {w : World} {K : PySem.W.Frag} {mg : Str → Option Value} {base : Heap} {x : Str} {st : Stmt} {N ps : List Str} {k : Nat} {sp : SpD} (G : Def K mg x st ps) (Sc : FnScope N ps (defScope st)) (len : ∀ ds S Q E, sp ds S Q E → ds.length = ps.length)
    (hbody : ∀ (f : Addr) (cdv : Value) (A : Around) (outer : List Env) (s : Shared) (H : Hp) (E : XK), Room k (A.deeper (envOfC x (defScope st) s.heap.objs.size f cdv)) →
      ∃ t, PSsd (cxOf (L2.CX P w) P w K mg base N x (defScope st) f cdv A outer s H E) (fun cls d _ H => E cls d H) (defBody st) t ∧
        ∀ ds S Q ED, sp ds S Q ED → t { nx := fun _ S' => Q .non S', rt := Q, ex := fun e _ S' => ED e S' } (startD N ds) S) : Cal P w K mg base x (k + 1) ps sp := by
  obtain ⟨f, fd, h1, h2, h3⟩ := G.ex
  exact ⟨f, fd, Fun.okD h1 Sc len (hbody f), h2, h1.kp, h3⟩
section
variable {X : Cx} {W : WX} {e : Expr} {es : List Expr} {w : DE} {ws : DA} {pos p : Pos} {x : Str}
theorem dpe_cal {k j : Nat} {ps : List Str} {sp : SpD} (G : Cal X.prog X.w X.K X.mg X.base x k ps sp) (hr : Room j X.A) (hkj : k ≤ j) (hg : Gl X x) (tk : Takes X W) (ha : PAd X W (e :: es) ws)
    (hdb : (x == ("__debug__" : Str)) = false := by decide) (he : starEach (e :: es) X.env = (false, eval e X.env) :: starEach es X.env := by rfl) (hpl : (backTo pos (starEach es X.env)).any (·.1) = false := by rfl) :
    PEd X W (.Call (.Name x p) (e :: es) [] pos) (wCall ws sp) := by
  obtain ⟨f, fd, h1, h2, h3, h4⟩ := G.ex
  exact dpe_call h1 (hr.mono hkj) hg h2 h3 h4 tk ha hdb he hpl
theorem dpe_cst {d : D} (c : Cst X.K X.mg x d) (hg : Gl X x) (hd : (x == ("__debug__" : Str)) = false := by decide) : PEd X W (.Name x pos) (wC d) := by
  obtain ⟨u, v, h1, h2, h3⟩ := c.ex
  exact dpe_glob hg h1 h2 h3 hd
theorem dps_rz {c m : Str} {j : Nat} {p2 p3 : Pos} (C : Exn X.K X.mg c) (hc : X.calm = true) (tk : Takes X W) (hg : Gl X c) (hdb : (c == ("__debug__" : Str)) = false := by decide) : PSd X W (.Raise (some (.Call (.Name c p) [.Constant (.str m) j p2] [] p3)) none pos) (wRaise c) := by
  obtain ⟨C, h1, h2, h3, h4, h5⟩ := C.ex
  exact dps_raise hc tk PySem.F.excBase_ValueError h2 h1 h3 (raises_own h4 h5) hg hdb
end
theorem bb_isinstance : bootBuiltins "isinstance" = some (.builtin "isinstance") := by decide +kernel
theorem bb_len : bootBuiltins "len" = some (.builtin "len") := by decide +kernel
theorem bb_any : bootBuiltins "any" = some (.builtin "any") := by decide +kernel
theorem bb_all : bootBuiltins "all" = some (.builtin "all") := by decide +kernel
theorem bb_sum : bootBuiltins "sum" = some (.builtin "sum") := by decide +kernel
theorem bb_max : bootBuiltins "max" = some (.builtin "max") := by decide +kernel
theorem bb_min : bootBuiltins "min" = some (.builtin "min") := by decide +kernel
theorem bb_sorted : bootBuiltins "sorted" = some (.builtin "sorted") := by decide +kernel
theorem bb_int : bootBuiltins "int" = some (.type "int") := by decide +kernel
theorem bb_bool : bootBuiltins "bool" = some (.type "bool") := by decide +kernel
theorem bb_str : bootBuiltins "str" = some (.type "str") := by decide +kernel
theorem bb_tuple : bootBuiltins "tuple" = some (.type "tuple") := by decide +kernel
theorem bb_list : bootBuiltins "list" = some (.type "list") := by decide +kernel
theorem bb_dict : bootBuiltins "dict" = some (.type "dict") := by decide +kernel
end DL
/-! ## DL7z -/
/-! zip of two tuples walked by ONE name: the pair is held while the next one is drawn, so the zip object may remember any earlier
pair. One lemma serves both ends of a turn. The road is the library's own for a tuple target, widened to the remembered pair. -/
namespace DZ
open PySem
open PySem.Sem (wp)

/-- everything but the cells of N is as before -/
def Stay (N : List Addr) (h h' : Heap) : Prop := ∀ c o, (∀ n ∈ N, c ≠ n) → h.get? c = some o → h'.get? c = some o
namespace Stay
variable {N M : List Addr} {h h1 h2 : Heap} {c : Addr}
theorem chg (x : Heap.SameBut c h h1) : Stay [c] h h1 := fun b o nb e => x.extBut b o (nb c (by simp)) e
theorem ext (x : Heap.ExtBut c h h1) : Stay [c] h h1 := fun b o nb e => x b o (nb c (by simp)) e
theorem alloc (o : Obj) : Stay [] h (h.push o) := fun b o' _ e => Heap.get?_push_of_some _ e
theorem thn (x : Stay N h h1) (y : Stay M h1 h2) : Stay (N ++ M) h h2 := fun b o nb e =>
  y b o (fun n m => nb n (List.mem_append_right _ m)) (x b o (fun n m => nb n (List.mem_append_left _ m)) e)
theorem wide (x : Stay N h h1) (le : ∀ n ∈ N, n ∈ M) : Stay M h h1 := fun b o nb e => x b o (fun n m => nb n (le n m)) e
theorem iter {l k} (x : Stay N h h1) (f : h.IsTupleIter c l k) (nb : ∀ n ∈ N, c ≠ n) : h1.IsTupleIter c l k := f.at fun o e => x c o nb e
theorem tupl {xs} (x : Stay N h h1) (f : h.IsTuple c xs) (nb : ∀ n ∈ N, c ≠ n) : h1.IsTuple c xs := let ⟨o, e, r⟩ := f; ⟨o, x c o nb e, r⟩
end Stay

/-- the zip object: what it remembers, whether that pair is out, and its two cells -/
def zo (TI TO : Addr) (mem : Value) (out : Bool) : Obj := { cls := .type "zip", dict := none, data := .fields #[mem, .bool out, .bool false, .ref TI, .ref TO], slots := #[] }
/-- what a zip object may remember: nothing, or the address of a pair -/
inductive Mem : Value → Prop
  | no : Mem .none
  | at (T : Addr) : Mem (rawInt T)

/-- a zip in the middle of its walk: both tuples have given i items -/
structure Mid (h : Heap) (z TI TO i1 i2 a b : Addr) (i : Nat) : Prop where
  self : ∃ m out, Mem m ∧ h.get? z = some (zo TI TO m out)
  its : IsPair h TI (.ref i1) (.ref i2)
  buf : ∃ x y, IsPair h TO x y
  one : h.IsTupleIter i1 a i
  two : h.IsTupleIter i2 b i

theorem apt {z TI TO i1 i2 a b : Addr} (D : ZipApart z TI TO i1 i2 a b) : TI ≠ z ∧ TO ≠ z ∧ i1 ≠ z ∧ i2 ≠ z ∧ TI ≠ TO ∧ TI ≠ i1 ∧ TI ≠ i2 ∧ TO ≠ i1 ∧ TO ≠ i2 ∧ i1 ≠ i2 ∧ a ≠ z ∧ a ≠ TO ∧ a ≠ i1 ∧ a ≠ i2 ∧ b ≠ z ∧ b ≠ TO ∧ b ≠ i1 ∧ b ≠ i2 ∧ z ≠ TO ∧ z ≠ i1 ∧ z ≠ i2 ∧ i1 ≠ TO ∧ i2 ≠ TO ∧ i2 ≠ i1 :=
  ⟨D.TIz, D.TOz, D.i1z, D.i2z, D.TITO, D.TIi1, D.TIi2, D.TOi1, D.TOi2, D.i12, D.l1z, D.l1TO, D.l1i1, D.l1i2, D.l2z, D.l2TO, D.l2i1, D.l2i2, D.TOz.symm, D.i1z.symm, D.i2z.symm, D.TOi1.symm, D.TOi2.symm, D.i12.symm⟩
section
variable {prog : Program} {w : World} {A : Around} {E : Value → Shared → Prop} {s : Shared} {β : Type}

/-- read a field of the zip, then go on -/
theorem rd {z TI TO : Addr} {m : Value} {out : Bool} {j : Nat} {x : Value} {f : Value → Sem β} {Q : β → Shared → Prop} (e : s.heap.get? z = some (zo TI TO m out))
    (ej : (#[m, .bool out, .bool false, .ref TI, .ref TO] : Array Value)[j]? = some x) (k : wpAny (model prog w) A (f x) Q E s) : wpAny (model prog w) A (field (.ref z) j >>= f) Q E s :=
  wpAny_bind (wpAny_field e rfl ej k)
/-- write what the zip remembers, then go on -/
theorem wr0 {z TI TO : Addr} {m x : Value} {out : Bool} {Q : Unit → Shared → Prop} (e : s.heap.get? z = some (zo TI TO m out))
    (k : ∀ h1, h1.get? z = some (zo TI TO x out) → Heap.SameBut z s.heap h1 → Q () { s with heap := h1 }) : wpAny (model prog w) A (setField (.ref z) 0 x) Q E s :=
  wpAny_setField_rec e (by simp) k
theorem wr1 {z TI TO : Addr} {m : Value} {out x : Bool} {Q : Unit → Shared → Prop} (e : s.heap.get? z = some (zo TI TO m out))
    (k : ∀ h1, h1.get? z = some (zo TI TO m x) → Heap.SameBut z s.heap h1 → Q () { s with heap := h1 }) : wpAny (model prog w) A (setField (.ref z) 1 (.bool x)) Q E s :=
  wpAny_setField_rec e (by simp) k
/-- one item of a tuple, or its end -/
theorem draw {p t : Addr} {i : Nat} {xs : Array Value} {f : Value → Sem β} {Q : β → Shared → Prop} (hh : A.handled = none) (ip : s.heap.IsTupleIter p t i) (it : s.heap.IsTuple t xs)
    (some_ : ∀ x h1, xs[i]? = some x → h1.IsTupleIter p t (i + 1) → Heap.SameBut p s.heap h1 → wpAny (model prog w) A (f x) Q E { s with heap := h1 })
    (none_ : ∀ e h1, xs[i]? = none → Stay [p] s.heap h1 → (∃ o, h1.get? e = some o ∧ o.cls = .type "StopIteration") → E (.ref e) { s with heap := h1 }) :
    wpAny (model prog w) A (Builtin.SmallTypes.nextOf (.ref p) >>= f) Q E s := by
  rcases g : xs[i]? with _ | x
  · exact wpAny_bind (RZ.nextOf_tuple_end hh ip it g fun h1 e st o => none_ e h1 g (.ext st) o)
  · exact wpAny_bind (RZ.nextOf_tuple_item ip it g fun h1 n st => some_ x h1 g n st)
/-- the remembered pair is free, or it is still out -/
theorem isFree {z TI TO : Addr} {m : Value} {out : Bool} {f : Bool → Sem β} {Q : β → Shared → Prop} (hm : Mem m) (e : s.heap.get? z = some (zo TI TO m out))
    (yes : wpAny (model prog w) A (f true) Q E s)
    (not : ∀ (h1 : Heap) (T : Addr), h1.get? z = some (zo TI TO (rawInt T) true) → Stay [z] s.heap h1 → h1.objs.size = s.heap.objs.size → wpAny (model prog w) A (f false) Q E { s with heap := h1 }) :
    wpAny (model prog w) A (Builtin.SmallTypes.ownedTupleIsFree (.ref z) >>= f) Q E s := by
  refine wpAny_bind ?_
  unfold Builtin.SmallTypes.ownedTupleIsFree
  refine rd e rfl ?_
  cases hm with
  | no => exact wpAny_pure yes
  | «at» T =>
    have alive : ∀ {R : Option Obj → Shared → Prop}, R (s.heap.get? T) s → wpAny (model prog w) A (loadIfAlive ((T : Int).toNat)) R E s := fun r G p _ => by
      rw [Int.toNat_natCast, show (loadIfAlive T : Sem (Option Obj)) = Sem.loadIfAlive T pure from rfl, Sem.wp_loadIfAlive]; exact r
    refine wpAny_bind (alive ?_)
    rcases s.heap.get? T with _ | oT
    · exact wpAny_pure yes
    · refine rd e rfl ?_
      rcases out with _ | _
      · exact wpAny_bind (wr1 e fun h1 e1 c1 => wpAny_pure (not h1 T e1 (.chg c1) c1.1))
      · exact wpAny_pure (not s.heap T e (fun _ _ _ q => q) rfl)

theorem step {z TI TO i1 i2 a b : Addr} {i : Nat} {xs ys : Array Value} {Q : Value → Shared → Prop} (hh : A.handled = none) (D : ZipApart z TI TO i1 i2 a b) (Z : Mid s.heap z TI TO i1 i2 a b i)
    (ta : s.heap.IsTuple a xs) (tb : s.heap.IsTuple b ys)
    (go : ∀ x y h1, xs[i]? = some x → ys[i]? = some y → Mid h1 z TI TO i1 i2 a b (i + 1) → IsPair h1 s.heap.objs.size x y → h1.objs.size = s.heap.objs.size + 1 → Stay [z, TO, i1, i2] s.heap h1 →
      Q (.ref s.heap.objs.size) { s with heap := h1 })
    (stop : ∀ e h1, (xs[i]? = none ∨ ys[i]? = none) → Stay [z, TO, i1, i2] s.heap h1 → (∃ o, h1.get? e = some o ∧ o.cls = .type "StopIteration") → E (.ref e) { s with heap := h1 }) :
    wpAny (model prog w) A (Builtin.«zip.__next__» ⟨[.ref z], []⟩) (fun fin s' => ∃ v, fin = .done (.ret v) ∧ Q v s') E s := by
  obtain ⟨⟨m, out, hm, ez⟩, eI, ⟨u0, v0, eO⟩, p1, p2⟩ := Z
  refine rd ez (j := 2) rfl (rd ez (j := 3) rfl (wpAny_bind (wpAny_seqItems eI rfl (isFree hm ez ?_ ?_))))
  · simp only [if_true]
    refine wpAny_bind (wpAny_rule (rd ez rfl (wpAny_bind (wr0 ez fun g1 z1 c1 => wpAny_bind ?_))))
    have k1 := Stay.chg c1
    simp only [List.zipIdx_cons, List.zipIdx_nil, List.forIn_cons, List.forIn_nil]
    refine wpAny_bind (wpAny_bind (wpAny_onRaise (draw hh (k1.iter p1 (by simp [apt D])) (k1.tupl ta (by simp [apt D])) (fun x g2 gx q1 c2 => wpAny_pure ?_) fun e g2 gx c2 o => ?_)))
    · have k2 := k1.thn (.chg c2)
      have O2 : IsPair g2 TO u0 v0 := k2 _ _ (by simp [apt D]) eO
      refine wpAny_bind (wpAny_seqItems O2 rfl (wpAny_bind (wpAny_updateSeq_pair O2 fun g3 O3 c3 => wpAny_bind (wpAny_letGo (wpAny_pure ?_)))))
      have k3 := k2.thn (.chg c3)
      refine wpAny_bind (wpAny_bind (wpAny_onRaise (draw hh (k3.iter p2 (by simp [apt D])) (k3.tupl tb (by simp [apt D])) (fun y g4 gy q2 c4 => wpAny_pure ?_) fun e g4 gy c4 o => ?_)))
      · have k4 := k3.thn (.chg c4)
        have O4 : IsPair g4 TO x v0 := Stay.chg c4 _ _ (by simp [apt D]) O3
        refine wpAny_bind (wpAny_seqItems O4 rfl (wpAny_bind (wpAny_updateSeq_pair O4 fun g5 O5 c5 => wpAny_bind (wpAny_letGo (wpAny_pure (wpAny_pure ?_))))))
        have k5 := k4.thn (.chg c5)
        have O6 : IsPair g5 TO x y := O5
        refine wpAny_bind (wpAny_seqItems O6 rfl (wpAny_bind (wpAny_newTuple (wpAny_bind ?_))))
        have size5 : g5.objs.size = s.heap.objs.size := by rw [c5.1, c4.1, c3.1, c2.1, c1.1]
        have z5 : g5.get? z = some (zo TI TO .ellipsis out) := ((Stay.chg c2).thn ((Stay.chg c3).thn ((Stay.chg c4).thn (.chg c5)))) _ _ (by simp [apt D]) z1
        unfold Builtin.SmallTypes.ownedTupleHandOut
        refine wpAny_bind (wr0 (Heap.get?_push_of_some _ z5) fun g7 z7 c7 => wr1 z7 fun g8 z8 c8 => wpAny_pure ⟨_, rfl, ?_⟩)
        have last : Stay [z] g5 g8 := ((Stay.alloc _).thn ((Stay.chg c7).thn (.chg c8))).wide (by simp)
        have P8 : IsPair g8 g5.objs.size x y := ((Stay.chg c7).thn (.chg c8)) _ _ (by simpa using Nat.ne_of_gt (Heap.lt_size z5)) (Heap.get?_push_size _ rfl)
        have size8 : g8.objs.size = g5.objs.size + 1 := by rw [c8.1, c7.1, Heap.size_push]
        show Q (.ref g5.objs.size) _
        rw [size5] at P8 size8 z8 ⊢
        exact go x y g8 gx gy ⟨⟨_, _, .at _, z8⟩, (k5.thn last) _ _ (by simp [apt D]) eI, ⟨_, _, last _ _ (by simp [apt D]) O5⟩, ((Stay.chg c3).thn ((Stay.chg c4).thn ((Stay.chg c5).thn last))).iter q1 (by simp [apt D]),
          ((Stay.chg c5).thn last).iter q2 (by simp [apt D])⟩ P8 size8 ((k5.thn last).wide (by simp))
      · obtain ⟨oe, he, ce⟩ := o
        have z4 : g4.get? z = some (zo TI TO .ellipsis out) := ((Stay.chg c2).thn ((Stay.chg c3).thn c4)) _ _ (by simp [apt D]) z1
        refine wr0 z4 fun g5 _ c5 => stop e g5 (.inr gy) (((k3.thn c4).thn (.chg c5)).wide (by simp)) ⟨oe, Stay.chg c5 _ _ ?_ he, ce⟩
        intro n hn q
        rw [q, List.mem_singleton.mp hn, z4] at he
        cases he; exact absurd ce (by simp [zo])
    · obtain ⟨oe, he, ce⟩ := o
      have z2 : g2.get? z = some (zo TI TO .ellipsis out) := c2 _ _ (by simp [apt D]) z1
      refine wr0 z2 fun g3 _ c3 => stop e g3 (.inl gx) (((k1.thn c2).thn (.chg c3)).wide (by simp)) ⟨oe, Stay.chg c3 _ _ ?_ he, ce⟩
      intro n hn q
      rw [q, List.mem_singleton.mp hn, z2] at he
      cases he; exact absurd ce (by simp [zo])
  · intro g1 T z1 k1 size1
    simp only [Bool.false_eq_true, if_false]
    refine wpAny_bind ?_
    rw [← Array.forIn_toList]
    simp only [List.forIn_cons, List.forIn_nil]
    refine wpAny_bind (wpAny_bind (wpAny_holding (draw (s := { s with heap := g1 }) hh (k1.iter p1 (by simp [apt D])) (k1.tupl ta (by simp [apt D])) (fun x g2 gx q1 c2 => wpAny_pure (wpAny_pure ?_))
      fun e g2 gx c2 o => stop e g2 (.inl gx) ((k1.thn c2).wide (by simp)) o)))
    have k2 := k1.thn (.chg c2)
    refine wpAny_bind (wpAny_bind (wpAny_holding (draw (s := { s with heap := g2 }) hh (k2.iter p2 (by simp [apt D])) (k2.tupl tb (by simp [apt D])) (fun y g3 gy q2 c3 => wpAny_pure (wpAny_pure (wpAny_pure ?_)))
      fun e g3 gy c3 o => stop e g3 (.inr gy) ((k2.thn c3).wide (by simp)) o)))
    have size3 : g3.objs.size = s.heap.objs.size := by rw [c3.1, c2.1]; exact size1
    refine wpAny_bind (wpAny_newTuple (items := [x, y]) (wpAny_pure ⟨_, rfl, ?_⟩))
    have last : Stay [] g3 (g3.push { cls := .type "tuple", data := .seq #[x, y] }) := Stay.alloc _
    have k4 := (k2.thn (.chg c3)).thn last
    have z4 := ((Stay.chg c2).thn ((Stay.chg c3).thn last)) _ _ (by simp [apt D]) z1
    have P4 : IsPair (g3.push { cls := .type "tuple", data := .seq #[x, y] }) g3.objs.size x y := Heap.get?_push_size _ rfl
    have size4 : (g3.push { cls := .type "tuple", data := .seq #[x, y] }).objs.size = g3.objs.size + 1 := Heap.size_push ..
    show Q (.ref g3.objs.size) _
    rw [size3] at P4 size4 ⊢
    exact go x y _ gx gy ⟨⟨_, _, .at T, z4⟩, k4 _ _ (by simp [apt D]) eI, ⟨_, _, k4 _ _ (by simp [apt D]) eO⟩, ((Stay.chg c3).thn last).iter q1 (by simp [apt D]), last.iter q2 (by simp)⟩ P4 size4 (k4.wide (by simp))

/-- a turn of the loop: the next pair, or the end -/
theorem turn {z TI TO i1 i2 a b : Addr} {i : Nat} {xs ys : Array Value} {Q : Option Value → Shared → Prop} (hh : A.handled = none) (D : ZipApart z TI TO i1 i2 a b) (Z : Mid s.heap z TI TO i1 i2 a b i)
    (ta : s.heap.IsTuple a xs) (tb : s.heap.IsTuple b ys)
    (go : ∀ x y h1, xs[i]? = some x → ys[i]? = some y → Mid h1 z TI TO i1 i2 a b (i + 1) → IsPair h1 s.heap.objs.size x y → h1.objs.size = s.heap.objs.size + 1 → Stay [z, TO, i1, i2] s.heap h1 →
      Q (some (.ref s.heap.objs.size)) { s with heap := h1 })
    (stop : ∀ h1, (xs[i]? = none ∨ ys[i]? = none) → Stay [z, TO, i1, i2] s.heap h1 → Q none { s with heap := h1 }) : wpAny (model prog w) A (pyNext (.ref z)) Q E s := by
  have isz : s.TypeIs (.ref z) "zip" := let ⟨_, _, _, e⟩ := Z.self; ⟨_, e, rfl⟩
  unfold pyNext
  refine wpAny_bind (wpAny_attempt (wpAny_callSpecial?_slot (name := Str.ofString "__next__") isz F.slot_zip_next (wpAny_call_entry F.slot_zip_next isz F.entry_zip_next
    (step hh D Z ta tb (fun x y h1 gx gy Z1 P1 e1 k1 => wpAny_pure (go x y h1 gx gy Z1 P1 e1 k1)) fun e h1 gn k1 o => ?_) (F.args_zip_next_1 _))))
  exact wpAny_bind (wpAny_isInstance (T := "StopIteration") (b := true) o isSubtype_stop (wpAny_pure (stop h1 gn k1)))
end
end DZ
/-! ## DL7 -/
namespace DL
open PySem PySem.Spec PyProof.Rows L2 RZ DZ
/-- a zip in the middle has its five cells -/
theorem mid_cells {h : Heap} {z TI TO i1 i2 a b : Addr} {i : Nat} (Z : Mid h z TI TO i1 i2 a b i) : ∀ c ∈ [z, TI, TO, i1, i2], ∃ o, h.get? c = some o ∧ ∀ v, o.data ≠ .cell v := by
  obtain ⟨⟨m, out, _, ez⟩, eI, ⟨x, y, eO⟩, ⟨o1, e1, _, d1⟩, ⟨o2, e2, _, d2⟩⟩ := Z
  simp only [List.forall_mem_cons]
  exact ⟨⟨_, ez, nofun⟩, ⟨_, eI, nofun⟩, ⟨_, eO, nofun⟩, ⟨o1, e1, fun v => d1 ▸ nofun⟩, ⟨o2, e2, fun v => d2 ▸ nofun⟩, nofun⟩
/-- the four cells that a turn changes are among the five -/
theorem four_of {h h1 : Heap} {z TI TO i1 i2 : Addr} (k : Stay [z, TO, i1, i2] h h1) : ∀ c o, c ∉ [z, TI, TO, i1, i2] → h.get? c = some o → h1.get? c = some o :=
  fun c o nc e => k c o (fun n hn q => nc (q ▸ by simp only [List.mem_cons, List.not_mem_nil, or_false] at hn ⊢; rcases hn with e | e | e | e <;> simp [e])) e
theorem turn_zipN {P : Program} {w : World} {K : PySem.W.Frag} {nm : Str} {tpos : Pos} {a b z TI TO i1 i2 : Addr} (D : ZipApart z TI TO i1 i2 a b) :
    Turn P w K (.Name nm tpos) (ItzT K a b) [z, TI, TO, i1, i2] z (fun i h => Mid h z TI TO i1 i2 a b i) where
  mem := List.mem_cons_self
  obj := fun _ _ Z => mid_cells Z
  keep := fun i h h1 ⟨⟨m, out, hm, ez⟩, eI, ⟨x, y, eO⟩, p1, p2⟩ k => ⟨⟨m, out, hm, k _ (by simp) _ ez⟩, k _ (by simp) _ eI, ⟨x, y, k _ (by simp) _ eO⟩, p1.at (k _ (by simp)), p2.at (k _ (by simp))⟩
  item := fun X eP ew eK calm i pins s σ H E I free Z ⟨xs, ys, x, y, sx, sy, gx, gy⟩ => by
    cases eP; cases ew; cases eK
    obtain ⟨us, ru, pu, _⟩ := I.tuple sx
    obtain ⟨vs, rv, pv, _⟩ := I.tuple sy
    obtain ⟨u, hu, xu⟩ := ru.get gx
    obtain ⟨v, hv, yv⟩ := rv.get gy
    refine turn (I.ok.hd calm) D Z pu pv (fun u' v' h1 gu gv Z1 P1 sz k1 => ?_) fun h1 gn _ => ?_
    · obtain rfl : u' = u := Option.some.inj (gu.symm.trans (by simpa using hu))
      obtain rfl : v' = v := Option.some.inj (gv.symm.trans (by simpa using hv))
      have pair : ObjOk X.prog X.w (upd H s.heap.objs.size (.tup [x, y])) h1 s.heap.objs.size (.tup [x, y]) := ⟨by show 2 ≤ sizeLine; decide, [u', v'], .cons xu (.cons yv .nil), ⟨_, P1, rfl, _, rfl⟩⟩
      refine ⟨_, rfl, wpAny_pure ⟨.ref s.heap.objs.size, _, I.turnedNew (t' := s.toks) (four_of k1) free (Nat.le_refl _) pair, rfl,
        ⟨_, x, y, rfl, I.hok.fresh (Nat.le_refl _), rfl, fun l e => by rw [I.tuple_inj e sx]; exact gx, fun l e => by rw [I.tuple_inj e sy]; exact gy⟩, Z1, fun c hc => ?_⟩⟩
      obtain ⟨o, e, _⟩ := mid_cells Z c hc
      exact (upd_ne (Nat.ne_of_lt (Heap.lt_size e))).trans (free c hc).1
    · rcases gn with g | g
      · rw [show us.toArray[i]? = some u by simpa using hu] at g; cases g
      · rw [show vs.toArray[i]? = some v by simpa using hv] at g; cases g
  done := fun X eP ew eK calm i pins s σ H E I free Z ⟨xs, ys, sx, sy, out⟩ => by
    cases eP; cases ew; cases eK
    obtain ⟨us, ru, pu, _⟩ := I.tuple sx
    obtain ⟨vs, rv, pv, _⟩ := I.tuple sy
    have n1 := ru.length
    have n2 := rv.length
    refine turn (I.ok.hd calm) D Z pu pv (fun u v h1 gu gv _ _ _ _ => ?_) fun h1 _ k1 => ⟨rfl, I.turnedL (t' := s.toks) (four_of k1) free⟩
    have b1 : i < us.length := (List.getElem?_eq_some_iff.mp (by simpa using gu)).1
    have b2 : i < vs.length := (List.getElem?_eq_some_iff.mp (by simpa using gv)).1
    omega
  self := fun A i s Q E Z q => by
    have isz : s.TypeIs (.ref z) "zip" := let ⟨_, _, _, e⟩ := Z.self; ⟨_, e, rfl⟩
    have back : ∀ {A1 : Around} {R : Fin → Shared → Prop}, R (.done (.ret (.ref z))) s → wpAny (model P w) A1 (ret (.ref z)) R E s := wpAny_pure
    refine wpAny_pyIter_slot isz F.slot_zip_iter (wpAny_call_entry F.slot_zip_iter isz F.entry_zip_iter (?_) (F.args_zip_iter_1 _))
    refine back ?_
    exact ⟨_, rfl, ⟨_, _, isz, F.slot_zip_next.lookup, q⟩⟩
theorem two_refs {a b : Addr} {us : List Value} (r : Vals [V.ref a, V.ref b] us) : us = [Value.ref a, Value.ref b] := by
  match us, r with
  | _, .cons ra (.cons rb .nil) => cases ra; cases rb; rfl
/-- zip of two tuples, for a name -/
def iZipT (K : PySem.W.Frag) (ta : TA) : TI := fun σ H R => ta σ H fun vs H1 => ∃ a b xs ys, vs = [.ref a, .ref b] ∧ SqT K H1 a xs ∧ SqT K H1 b ys ∧ R (ItzT K a b) H1
theorem pi_zipN {X : Cx} {e e2 : Expr} {ta : TA} {p pos tpos : Pos} {nm : Str} (hg : Gl X "zip") (hm : X.mg "zip" = none) (ha : PA X [e, e2] ta)
    (hs : starEach [e, e2] X.env = (false, eval e X.env) :: starEach [e2] X.env := by rfl) (hpl : (backTo pos (starEach [e2] X.env)).any (·.1) = false := by rfl) :
    PI X (.Name nm tpos) (.Call (.Name "zip" p) [e, e2] [] pos) (iZipT X.K ta) := by
  refine ⟨fun pins s σ H R I h => ?_⟩
  refine Call_ (ld_blt I hg hm PyProof.Rows.boot_zip (PyProof.Rows.callWith_type1 (thn (ha.run pos pins s σ H _ I h) fun us s1 ⟨vs, H1, I1, r1, q1⟩ => ?_) hs hpl))
  obtain ⟨a, b, xs, ys, ex, hqx, hqy, q⟩ := q1
  subst ex
  obtain rfl := two_refs r1
  obtain ⟨us1, _, p1, _⟩ := I1.tuple hqx
  obtain ⟨us2, _, p2, _⟩ := I1.tuple hqy
  have l1 : a < s1.heap.objs.size := p1.lt
  have l2 : b < s1.heap.objs.size := p2.lt
  refine call_zipT p1 p2 fun h1 z1 tI tO q1 q2 _ k1 => wpAny_pyIter_zip z1 ⟨_, _, _, _, H1, rfl, I1.kept (t' := s1.toks) k1,
    turn_zipN (PySem.W.ktu_apart s1.heap.objs.size a b l1 l2), ⟨⟨_, _, .no, z1⟩, tI, ⟨_, _, tO⟩, q1, q2⟩, fun c hc => ?_, q⟩
  have up : s1.heap.objs.size ≤ c := by
    simp only [List.mem_cons, List.not_mem_nil, or_false] at hc
    rcases hc with e | e | e | e | e <;> rw [e] <;> first | exact Nat.le_add_right _ _ | exact Nat.le_refl _
  exact I1.fpOk up (I1.hok.fresh up)
/-! ### .. in layer D -/
def zipD (xs ys : List D) : List D := (xs.zip ys).map fun p => .tup [p.1, p.2]
def iZp (w : DA) : DI := fun σ S Q E => w σ S (fun ds S' => match ds with | [.tup xs, .tup ys] => Q (zipD xs ys) (fun _ => True) S' | _ => False) E
theorem srv_zipT {K : PySem.W.Frag} {a b : Addr} {ds es : List D} : Srv K (ItzT K a b) (zipD ds es) (fun _ => True) (fun H _ _ => ∃ vs us, SqT K H a vs ∧ Reps K H ds vs ∧ SqT K H b us ∧ Reps K H es us) where
  bk := fun S F H S' F' H' m f ⟨vs, us, h1, h2, h3, h4⟩ => ⟨vs, us, SqT.kp (f.kp m) h1, Reps.kp (f.kp m) _ _ h2, SqT.kp (f.kp m) h3, Reps.kp (f.kp m) _ _ h4⟩
  go := fun i S F H hi ⟨vs, us, h1, h2, h3, h4⟩ m _ => by
    have hl : (zipD ds es).length = min ds.length es.length := by simp [zipD]
    have l1 := h2.length
    have l2 := h4.length
    have a1 : i < vs.length := by omega
    have a2 : i < us.length := by omega
    exact ⟨vs, us, vs[i], us[i], h1, h3, by simp, by simp⟩
  stop := fun S F H ⟨vs, us, h1, h2, h3, h4⟩ m _ => by
    have hl : (zipD ds es).length = min ds.length es.length := by simp [zipD]
    have l1 := h2.length
    have l2 := h4.length
    exact ⟨vs, us, h1, h3, by omega⟩
  yld := fun i S F H x H' ⟨vs, us, h1, h2, h3, h4⟩ m _ ⟨T, x', y', e1, hT, e2, g1, g2⟩ hi => by
    subst e1 e2
    have hl : (zipD ds es).length = min ds.length es.length := by simp [zipD]
    have a1 : i < ds.length := by omega
    have a2 : i < es.length := by omega
    obtain ⟨v, q1, r1⟩ := h2.get (List.getElem?_eq_getElem a1)
    obtain ⟨u, q2, r2⟩ := h4.get (List.getElem?_eq_getElem a2)
    have z1 := g1 vs h1
    have z2 := g2 us h3
    rw [q1] at z1; cases z1
    rw [q2] at z2; cases z2
    have ez : (zipD ds es)[i]? = some (.tup [ds[i], es[i]]) := by
      unfold zipD
      rw [List.getElem?_map, List.getElem?_eq_getElem (by rw [List.length_zip]; omega), List.getElem_zip]
      rfl
    refine ⟨.tup [ds[i], es[i]], ez, ⟨T, [x', y'], rfl, .inl (.inl upd_same), ?_⟩, m.laid hT, Fm.laid hT⟩
    exact ⟨x', [y'], rfl, Rep.kp (kp_new hT) _ _ r1, y', [], rfl, Rep.kp (kp_new hT) _ _ r2, rfl⟩
section
variable {X : Cx} {W : WX} {e e2 tg : Expr} {es : List Expr} {w : DE} {ws : DA} {pos p : Pos} {g : DG} {vs : List Nat}
theorem dpi_zipN {nm : Str} {tpos : Pos} (hg : Gl X "zip") (hm : X.mg "zip" = none) (ha : PAd X W [e, e2] ws)
    (hs : starEach [e, e2] X.env = (false, eval e X.env) :: starEach [e2] X.env := by rfl) (hpl : (backTo pos (starEach [e2] X.env)).any (·.1) = false := by rfl) : PId X W (.Name nm tpos) (.Call (.Name "zip" p) [e, e2] [] pos) (iZp ws) :=
  PI.imp (pi_zipN hg hm ha hs hpl) fun σ H R ⟨σD, S, F, QD, ED, sl, m, h, k, kx⟩ => by
    refine ⟨σD, S, F, _, ED, sl, m, h, fun vs H1 ds S1 F1 r1 m1 f1 h1 => ?_, kx⟩
    dsimp only at h1
    split at h1
    · obtain ⟨v, vr, rfl, ⟨a, va, rfl, ta, ra⟩, v2, vr2, rfl, ⟨b, vb, rfl, tb, rb⟩, rfl⟩ := r1
      exact ⟨a, b, va, vb, rfl, ta, tb, k _ H1 _ _ _ S1 F1 srv_zipT ⟨va, vb, ta, ra, tb, rb⟩ m1 f1 h1⟩
    · exact h1.elim
theorem dpi_zip {elts : List Expr} {kk : Nat} {tpos : Pos} (hg : Gl X "zip") (hm : X.mg "zip" = none) (ha : PAd X W [e, e2] ws)
    (hs : starEach [e, e2] X.env = (false, eval e X.env) :: starEach [e2] X.env := by rfl) (hpl : (backTo pos (starEach [e2] X.env)).any (·.1) = false := by rfl) : PId X W (.Tuple elts kk tpos) (.Call (.Name "zip" p) [e, e2] [] pos) (iZp ws) :=
  PI.imp (pi_zipA hg hm ha hs hpl) fun σ H R ⟨σD, S, F, QD, ED, sl, m, h, k, kx⟩ => by
    refine ⟨σD, S, F, _, ED, sl, m, h, fun vs H1 ds S1 F1 r1 m1 f1 h1 => ?_, kx⟩
    dsimp only at h1
    split at h1
    · obtain ⟨v, vr, rfl, ⟨a, va, rfl, ta, ra⟩, v2, vr2, rfl, ⟨b, vb, rfl, tb, rb⟩, rfl⟩ := r1
      exact ⟨a, b, va, vb, rfl, .inr ⟨ta, tb, k _ H1 _ _ _ S1 F1 srv_zipT ⟨va, vb, ta, ra, tb, rb⟩ m1 f1 h1⟩⟩
    · exact h1.elim
/-! ### tuple targets -/
abbrev DGs := List D → DSt → Store → (DSt → Store → Prop) → Prop
def upGs (K : PySem.W.Frag) (vs : List Nat) (g : DGs) : TGs := fun us σ H Q => ∃ ds σD S F QD, Reps K H ds us ∧ SlR K H σD σ ∧ Mod K H S F ∧ g ds σD S QD ∧
  (∀ σ' H' σD' S' F', (∀ j, j ∉ vs → σ'[j]? = σ[j]?) → σ'.length = σ.length → SlR K H' σD' σ' → Mod K H' S' F' → Fm S F H S' F' H' → QD σD' S' → Q σ' H')
abbrev PGsd (X : Cx) (vs : List Nat) (e : List Expr) (g : DGs) : Prop := PGs X e (upGs X.K vs g)
def gNl : DGs := fun ds σ S Q => match ds with | [] => Q σ S | _ => False
def gCs (g : DG) (r : DGs) : DGs := fun ds σ S Q => match ds with | d :: dr => g d σ S (fun σ' S' => r dr σ' S' Q) | _ => False
def gTp (n : Nat) (r : DGs) : DG := fun d σ S Q => match d with | .tup ds => ds.length = n ∧ r ds σ S Q | _ => False
theorem dpgs_nil : PGsd X vs [] gNl := PGs.imp pgs_nil fun us σ H Q ⟨ds, σD, S, F, QD, r, sl, m, h, k⟩ => by
  unfold gNl at h
  split at h
  · exact ⟨r, k σ H σD S F (fun _ _ => rfl) rfl sl m (Fm.refl S F H) h⟩
  · exact h.elim
theorem dpgs_cons {r : DGs} (h1 : PGd X vs e g) (h2 : PGsd X vs es r) (hs : (assignEach (e :: es) X.env).map (·.2) = assign e X.env :: (assignEach es X.env).map (·.2) := by rfl) : PGsd X vs (e :: es) (gCs g r) :=
  PGs.imp (pgs_cons h1 h2 hs) fun us σ H Q ⟨ds, σD, S, F, QD, rr, sl, m, h, k⟩ => by
    unfold gCs at h
    split at h
    · obtain ⟨v, vr, rfl, r1, r2⟩ := rr
      refine ⟨v, vr, rfl, _, σD, S, F, _, r1, sl, m, h, fun σ' H' σD' S' F' o l sl' m' f q => ?_⟩
      exact ⟨_, σD', S', F', QD, Reps.kp (f.kp m) _ _ r2, sl', m', q, fun σ2 H2 σD2 S2 F2 o2 l2 sl2 m2 f2 q2 => k σ2 H2 σD2 S2 F2 (fun j hj => (o2 j hj).trans (o j hj)) (l2.trans l) sl2 m2 (f.trans f2) q2⟩
    · exact h.elim
theorem dpg_tup {k : Nat} {r : DGs} {n : Nat} (hc : X.calm = true) (h : PGsd X vs es r)
    (hn : (assignEach es X.env).length = n := by rfl) (hst : (assignEach es X.env).findIdx? (·.1) = none := by rfl) : PGd X vs (.Tuple es k pos) (gTp n r) :=
  PG.imp (pg_tup hc h hn hst) fun v σ H Q ⟨d, σD, S, F, QD, rr, sl, m, h, k⟩ => by
    cases d <;> first | exact h.elim | skip
    obtain ⟨a, us, rfl, t, r⟩ := rr
    exact ⟨a, us, rfl, t, by rw [← r.length]; exact h.1, _, σD, S, F, QD, r, sl, m, h.2, k⟩
/-! ### max, min of a tuple of ints -/
def rMaxT (K : PySem.W.Frag) : List V → Hp → VK → Prop := fun vs H Q => ∃ (a : Addr) (ns : List Int), vs = [V.ref a] ∧ SqT K H a (ns.map V.int) ∧ 0 < ns.length ∧ ∀ m, m ∈ ns → (∀ y, y ∈ ns → y ≤ m) → Q (.int m) H
theorem cr_maxT (hc : X.calm = true) : CallR X (.builtin "max") (rMaxT X.K) := fun pins s σ H vs us Q I r ⟨a, ns, ev, tn, ne, q⟩ => by
  subst ev
  obtain rfl := Vals.ref1 r
  obtain ⟨its, rv, ta, _⟩ := I.tuple tn
  have nis : IntsAre its ns := Vals.ints rv
  obtain ⟨ms, em⟩ := nis.allInts.items
  have val := nis.numsOf
  rw [show its = (intItems ms).toList by rw [← em], nums_intItems] at val
  subst val
  rw [em] at ta
  have any : 0 < ms.size := by simpa using ne
  have old : a ≠ s.heap.objs.size := Nat.ne_of_lt ta.lt
  have walk := Walks.tuple (prog := X.prog) (w := X.w) (A := X.A.in1) (I.ok.hd hc) s.heap.objs.size a old (intItems ms)
  refine call_max_walk (wpAny_pyIter_tuple ta ⟨_, _, _, _, _, _, _, rfl, walk, ⟨⟨_, Heap.get?_push_size _ rfl, rfl, rfl⟩, let ⟨o, e, k⟩ := ta; ⟨o, Heap.get?_push_of_some _ e, k⟩⟩, fun c hcm => ?_,
    by simpa [intItems] using any, CmpOf.ints_gt (numAt ms) (fun _ _ => intItems_at), fun v h1 tk P1 k1 => ?_⟩)
  · show c < (Heap.push s.heap _).objs.size
    have l := ta.lt
    rw [Heap.size_push]
    simp only [List.mem_cons, List.not_mem_nil, or_false] at hcm
    rcases hcm with e | e <;> rw [e]
    · exact Nat.lt_succ_self _
    · exact Nat.lt_succ_of_lt l
  · have gi : (intItems ms)[argBest (fun p q => decide (numAt ms p > numAt ms q)) (ms.size - 1)]? = some v := by simpa [intItems] using P1
    have top := argBest_gt (numAt ms) (ms.size - 1)
    obtain ⟨t, rfl⟩ := intItems_at gi
    refine ⟨.int _, H, I.kept fun c o e => k1 c o (fun m => ?_) (Heap.get?_push_of_some _ e), ⟨t, rfl⟩, q _ ?_ fun y hy => ?_⟩
    · have l := Heap.lt_size e
      exact Nat.lt_irrefl _ (List.mem_singleton.mp m ▸ l)
    · exact (numAt_eq ms _).symm ▸ PySem.getD_mem (by simp only [List.length_map, Array.length_toList]; omega)
    · obtain ⟨j, lj, rfl⟩ := mem_getD hy
      simp only [List.length_map, Array.length_toList] at lj
      have best := top.2 j (by omega)
      rwa [numAt_eq ms j] at best
/-- of a pair -/
def dMaxT (ds : List D) (S : Store) (Q : DK) : Prop := match ds with | [.tup [.int i, .int j]] => Q (.int (max i j)) S | _ => False
theorem lc_maxT {K : PySem.W.Frag} : LCA K (rMaxT K) dMaxT := by
  intro vs H ds S F QD Q r m h k
  unfold dMaxT at h
  split at h
  · rename_i i j
    obtain ⟨v, vr, rfl, ⟨a, ws, rfl, t, r1⟩, rfl⟩ := r
    have e := Reps.ints (ns := [i, j]) r1
    subst e
    refine ⟨a, [i, j], rfl, t, by simp, fun mx hm hy => ?_⟩
    have e : mx = max i j := by
      have h1 := hy i (by simp)
      have h2 := hy j (by simp)
      rcases (by simpa using hm : mx = i ∨ mx = j) with z | z <;> omega
    subst e
    exact k (.int _) H (.int _) S F rfl m (Fm.refl S F H) h
  · exact h.elim
/-! ### a list that no one changes is walked -/
theorem srv_rl {K : PySem.W.Frag} {a : Addr} {ds : List D} : Srv K (Itl K a) ds (fun _ => True) (fun H _ _ => ∃ vs, SqF K H a vs ∧ Reps K H ds vs) where
  bk := fun S F H S' F' H' m f ⟨vs, h1, h2⟩ => ⟨vs, SqF.kp (f.kp m) h1, Reps.kp (f.kp m) _ _ h2⟩
  go := fun i S F H hi ⟨vs, h1, h2⟩ m _ => ⟨vs, vs[i]'(by rw [← h2.length]; exact hi), (SqF.sq h1), by simp⟩
  stop := fun S F H ⟨vs, h1, h2⟩ m _ => ⟨vs, (SqF.sq h1), by rw [h2.length]; exact Nat.le_refl _⟩
  yld := fun i S F H x H' ⟨vs, h1, h2⟩ m _ ⟨e, y⟩ hi => by
    subst e
    obtain ⟨v, e1, r⟩ := h2.get (List.getElem?_eq_getElem hi)
    have e2 := y vs (SqF.sq h1)
    rw [e1] at e2; cases e2
    exact ⟨_, List.getElem?_eq_getElem hi, r, m, Fm.refl _ _ _⟩
/-- a list, of the store or not -/
def iLn (w : DE) : DI := fun σ S Q E => w σ S (fun d S' => match d with
  | .rl xs => Q xs (fun _ => True) S'
  | .ref a => (match S' a with | some (.lst xs) => Q xs (fun S => S a = some (.lst xs)) S' | _ => False)
  | _ => False) E
theorem dpi_ln (hl : PEd X W e w) : PId X W tg e (iLn w) := PI.imp (pi_list hl) fun σ H R ⟨σD, S, F, QD, ED, sl, m, h, k, kx⟩ => by
  refine ⟨σD, S, F, _, ED, sl, m, h, fun v H1 d S1 F1 r1 m1 f1 h1 => ?_, kx⟩
  dsimp only at h1
  split at h1
  · obtain ⟨a, vs, rfl, t, r⟩ := r1
    exact ⟨a, rfl, ⟨vs, SqF.sq t⟩, k _ H1 _ _ _ S1 F1 srv_rl ⟨vs, t, r⟩ m1 f1 h1⟩
  · rename_i a
    split at h1
    · rename_i xs e1
      cases r1
      obtain ⟨vs, h2, h3⟩ := m1.obj _ _ e1
      exact ⟨a, rfl, ⟨vs, SqL.of h2⟩, k _ H1 _ _ _ S1 F1 srv_lst True.intro m1 f1 h1⟩
    · exact h1.elim
  · exact h1.elim
end
end DL
/-! ## DL8 -/
namespace DL
open PySem PySem.Spec PyProof.Rows L2
section
variable {X : Cx} {W : WX} {a b c e o i tg : Expr} {es : List Expr} {w wa wb wo wi : DE} {ws vs us : DA} {pos apos cpos p2 : Pos} {name : Str}
/-! ### o[i] = e -/
def setD (o i d : D) (S : Store) (Q : Store → Prop) : Prop := match o, i with
  | .ref a, .int k => (match S a with | some (.lst ds) => (match ixN ds.length k with | some j => Q (sup S a (.lst (ds.set j d))) | none => False) | _ => False)
  | _, _ => False
def gSubD (wo wi : DE) : DG := fun d σ S Q => wo σ S (fun o S1 => wi σ S1 (fun i S2 => setD o i d S2 (fun S3 => Q σ S3)) XF) XF
theorem setD_e {o i d : D} {S : Store} {Q : Store → Prop} (h : setD o i d S Q) : ∃ a k ds j, o = .ref a ∧ i = .int k ∧ S a = some (.lst ds) ∧ ixN ds.length k = some j ∧ Q (sup S a (.lst (ds.set j d))) := by
  unfold setD at h
  split at h
  · split at h
    · split at h
      · exact ⟨_, _, _, _, rfl, rfl, by assumption, by assumption, h⟩
      · exact h.elim
    · exact h.elim
  · exact h.elim
theorem lay_lst {K : PySem.W.Frag} {H : Hp} {S : Store} {F : Own} {a : Addr} {ds es : List D} {xs : List V} (m : Mod K H S F) (e : S a = some (.lst ds)) (r : Reps K H es xs) : Mod K (upd H a (.lst xs)) (sup S a (.lst es)) F :=
  m.put (u' := .lst es) e ⟨xs, upd_same, Reps.kp (kp_mut (m.obj _ _ e).mut) _ _ r⟩
theorem kp_lst {K : PySem.W.Frag} {H : Hp} {S : Store} {F : Own} {a : Addr} {u : MO} {o : HO} (m : Mod K H S F) (e : S a = some u) : Kp H (upd H a o) := kp_mut (m.obj _ _ e).mut
theorem dpg_sub {vv : List Nat} (ho : PEd X (fun _ _ _ _ => False) o wo) (hi : PEd X (fun _ _ _ _ => False) i wi) (ht : ∀ (v : Value), assign (.Subscript o i pos) X.env v = (do
    let ov ← holding [v] (eval o X.env)
    let iv ← holding [v, ov] (eval i X.env)
    standAt pos
    holding [v, ov, iv] (setItem ov iv v)
    release [v, ov, iv] []) := by intro _; rfl) : PGd X vv (.Subscript o i pos) (gSubD wo wi) :=
  PG.imp (pg_sub ho hi set_list ht) fun v σ H Q ⟨d, σD, S, F, QD, r, sl, m, h, k⟩ => by
    refine ⟨σD, S, F, _, _, sl, m, h, fun x H1 od S1 F1 r1 m1 f1 h1 => ?_, fun _ _ _ _ _ _ _ _ _ z => z.elim⟩
    refine ⟨σD, S1, F1, _, _, sl.kp (f1.kp m), m1, h1, fun y H2 id S2 F2 r2 m2 f2 h2 => ?_, fun _ _ _ _ _ _ _ _ _ z => z.elim⟩
    obtain ⟨a, kk, ds, j, rfl, rfl, e1, e2, q⟩ := setD_e h2
    have r1' := Rep.kp (f2.kp m1) _ _ r1
    cases r1'
    cases r2
    obtain ⟨xs, g1, g2⟩ := m2.obj _ _ e1
    refine ⟨a, xs, kk, j, rfl, rfl, g1, by rw [← g2.length]; exact e2, ?_⟩
    have r' := Rep.kp ((f1.trans f2).kp m) _ _ r
    exact k σ _ σD (sup S2 a _) F2 (fun _ _ => rfl) rfl ((sl.kp ((f1.trans f2).kp m)).kp (kp_lst m2 e1)) (lay_lst m2 e1 (Reps.set j r' g2)) ((f1.trans f2).trans (Fm.put e1)) q

/-! ### methods -/
abbrev RM := D → List D → Store → DK → Prop
def LM (K : PySem.W.Frag) (r : V → List V → Hp → VK → Prop) (rD : RM) : Prop := ∀ x vs H d ds S F QD Q, Rep K H d x → Reps K H ds vs → Mod K H S F → rD d ds S QD → Post K S F H QD Q → r x vs H Q
def wBM (ok : D → Store → Prop) (r : RM) (wo : DE) (ws : DA) : DE := fun σ S Q E => wo σ S (fun d S1 => ok d S1 ∧ ws σ S1 (fun xs S2 => r d xs S2 Q) E) E
def TyM (K : PySem.W.Frag) (T : String) (ok : D → Store → Prop) : Prop := ∀ x H d S F, Rep K H d x → Mod K H S F → ok d S → tyV K T x H
theorem dpe_bm {T id : String} {r : V → List V → Hp → VK → Prop} {rD : RM} {ok : D → Store → Prop} (pa : PlainAttrs T) (slot : Slot T name id) (hty : typeOf (.builtin id) = pure (.type "method_descriptor")) (hm : MtR X id r) (hl : LM X.K r rD) (ty : TyM X.K T ok)
    (ho : PEd X W o wo) (ha : PAd X W (e :: es) ws) (h1 : attributeBase o name X.env (eval o X.env) = eval o X.env := by rfl) (h2 : ((((backTo cpos (starEach (e :: es) X.env)).all fun x => !x.fst) && (backToKw cpos (keywordEach [] X.env)).all fun x => x.fst.isSome) && decide (((e :: es).length + ([] : List Keyword).length + if ([] : List Keyword).isEmpty = true then 0 else 1) < 30)) = true := by rfl)
    (h3 : (apos.endLine == cpos.line) = true := by rfl) (h4 : starEach (e :: es) X.env = (false, eval e X.env) :: starEach es X.env := by rfl) (h5 : ((backTo cpos (starEach es X.env)).any fun x => x.fst) = false := by rfl) :
    PEd X W (.Call (.Attribute o name apos) (e :: es) [] cpos) (wBM ok rD wo ws) :=
  PE.imp (pe_bm pa slot hty hm ho ha h1 h2 h3 h4 h5) fun σ H Q ⟨σD, S, F, QD, ED, sl, m, h, k, kx⟩ => by
    refine ⟨σD, S, F, _, ED, sl, m, h, fun v H1 d S1 F1 r1 m1 f1 g1 => ⟨ty v H1 d S1 F1 r1 m1 g1.1, ?_⟩, kx⟩
    refine ⟨σD, S1, F1, _, ED, sl.kp (f1.kp m), m1, g1.2, fun xs H2 ds S2 F2 r2 m2 f2 g2 => ?_, kx.after f1⟩
    exact hl v xs H2 d ds S2 F2 QD Q (Rep.kp (f2.kp m1) _ _ r1) r2 m2 g2 (k.after (f1.trans f2))
theorem dpe_bm0 {T id : String} {r : V → List V → Hp → VK → Prop} {rD : RM} {ok : D → Store → Prop} (pa : PlainAttrs T) (slot : Slot T name id) (hty : typeOf (.builtin id) = pure (.type "method_descriptor")) (hm : MtR X id r) (hl : LM X.K r rD) (ty : TyM X.K T ok)
    (ho : PEd X W o wo) (hpe : ∀ {to : TE}, PE X o to → PE X (.Call (.Attribute o name apos) [] [] cpos) (tBM0 X.K T r to)) :
    PEd X W (.Call (.Attribute o name apos) [] [] cpos) (wBM ok rD wo wNil) :=
  PE.imp (hpe ho) fun σ H Q ⟨σD, S, F, QD, ED, sl, m, h, k, kx⟩ => by
    refine ⟨σD, S, F, _, ED, sl, m, h, fun v H1 d S1 F1 r1 m1 f1 g1 => ⟨ty v H1 d S1 F1 r1 m1 g1.1, ?_⟩, kx⟩
    exact hl v [] H1 d [] S1 F1 QD Q r1 rfl m1 g1.2 (k.after f1)
theorem dpe_bm0' {T id : String} {r : V → List V → Hp → VK → Prop} {rD : RM} {ok : D → Store → Prop} (pa : PlainAttrs T) (slot : Slot T name id) (hty : typeOf (.builtin id) = pure (.type "method_descriptor")) (hm : MtR X id r) (hl : LM X.K r rD) (ty : TyM X.K T ok)
    (ho : PEd X W o wo) (h1 : attributeBase o name X.env (eval o X.env) = eval o X.env := by rfl) (h3 : (apos.endLine == cpos.line) = true := by rfl) : PEd X W (.Call (.Attribute o name apos) [] [] cpos) (wBM ok rD wo wNil) :=
  dpe_bm0 pa slot hty hm hl ty ho fun q => pe_bm0 pa slot hty hm q h1 h3
section
variable {K : PySem.W.Frag}
def onL (d : D) (S : Store) (P : Addr → List D → Prop) : Prop := match d with
  | .ref a => (match S a with | some (.lst xs) => P a xs | _ => False)
  | _ => False
theorem onL_e {d : D} {S : Store} {P : Addr → List D → Prop} (h : onL d S P) : ∃ a xs, d = .ref a ∧ S a = some (.lst xs) ∧ P a xs := by
  unfold onL at h
  split at h
  · split at h
    · exact ⟨_, _, rfl, by assumption, h⟩
    · exact h.elim
  · exact h.elim
def isL (d : D) (S : Store) : Prop := onL d S fun _ _ => True
theorem ty_list : TyM K "list" isL := fun x H d S F r m h => by
  obtain ⟨a, xs, rfl, e, _⟩ := onL_e h
  cases r
  obtain ⟨vs, g, _⟩ := m.obj _ _ e
  exact .inl ⟨rfl, vs, SqL.of g⟩
def dAppend : RM := fun d ds S Q => onL d S fun a xs => match ds with | [y] => xs.length < sizeLine ∧ Q .non (sup S a (.lst (xs ++ [y]))) | _ => False
theorem lm_append : LM K rAppend dAppend := fun x vs H d ds S F QD Q r rs m h k => by
  obtain ⟨a, xs, rfl, e, h'⟩ := onL_e h
  clear h
  have h := h'
  clear h'
  cases r
  obtain ⟨us, g, gr⟩ := m.obj _ _ e
  split at h
  · obtain ⟨y', vr, rfl, ry, rfl⟩ := rs
    exact ⟨a, us, y', rfl, rfl, g, by rw [← gr.length]; exact h.1, k .non _ .non _ F rfl (lay_lst m e (gr.append (Reps.one ry))) (Fm.put e) h.2⟩
  · exact h.elim
def dPop : RM := fun d ds S Q => onL d S fun a xs => match ds, xs[xs.length - 1]? with | [], some y => Q y (sup S a (.lst xs.dropLast)) | _, _ => False
theorem Reps.dropLast {H : Hp} {ds : List D} {vs : List V} (h : Reps K H ds vs) : Reps K H ds.dropLast vs.dropLast := by
  rw [List.dropLast_eq_take, List.dropLast_eq_take, ← h.length]
  exact h.take _
theorem lm_pop : LM K rPop dPop := fun x vs H d ds S F QD Q r rs m h k => by
  obtain ⟨a, xs, rfl, e, h'⟩ := onL_e h
  clear h
  have h := h'
  clear h'
  cases r
  obtain ⟨us, g, gr⟩ := m.obj _ _ e
  split at h
  · rename_i y q
    cases rs
    obtain ⟨w, h1, h2⟩ := gr.get q
    exact ⟨a, us, w, rfl, rfl, g, by rw [← gr.length]; exact h1, k w _ y _ F (Rep.kp (kp_lst m e) _ _ h2) (lay_lst m e gr.dropLast) (Fm.put e) h⟩
  · exact h.elim
def dPopAt : RM := fun d ds S Q => onL d S fun a xs => match ds with
  | [.int i] => (-(2 ^ 63) ≤ i ∧ i < 2 ^ 63) ∧ (match seqIndex? i xs.length with | some k => (match xs[k]? with | some y => Q y (sup S a (.lst (xs.eraseIdx k))) | none => False) | none => False)
  | _ => False
theorem lm_popAt : LM K rPopAt dPopAt := fun x vs H d ds S F QD Q r rs m h k => by
  obtain ⟨a, xs, rfl, e, h'⟩ := onL_e h
  clear h
  have h := h'
  clear h'
  cases r
  obtain ⟨us, g, gr⟩ := m.obj _ _ e
  split at h
  · rename_i i
    obtain ⟨y', vr, rfl, ry, rfl⟩ := rs
    cases ry
    obtain ⟨h0, h⟩ := h
    split at h
    · rename_i kk q
      split at h
      · rename_i y q2
        obtain ⟨w, h1, h2⟩ := gr.get q2
        exact ⟨a, us, i, kk, w, rfl, rfl, g, h0.1, h0.2, by rw [← gr.length]; exact q, h1, k w _ y _ F (Rep.kp (kp_lst m e) _ _ h2) (lay_lst m e (gr.eraseIdx kk)) (Fm.put e) h⟩
      · exact h.elim
    · exact h.elim
  · exact h.elim
def dClear : RM := fun d ds S Q => onL d S fun a xs => match ds with | [] => Q .non (sup S a (.lst [])) | _ => False
theorem lm_clear : LM K rClear dClear := fun x vs H d ds S F QD Q r rs m h k => by
  obtain ⟨a, xs, rfl, e, h'⟩ := onL_e h
  clear h
  have h := h'
  clear h'
  cases r
  obtain ⟨us, g, gr⟩ := m.obj _ _ e
  split at h
  · cases rs
    exact ⟨a, us, rfl, rfl, g, k .non _ .non _ F rfl (lay_lst (es := []) m e rfl) (Fm.put e) h⟩
  · exact h.elim
def dReverse : RM := fun d ds S Q => onL d S fun a xs => match ds with | [] => Q .non (sup S a (.lst xs.reverse)) | _ => False
theorem Reps.reverse {H : Hp} : ∀ {ds : List D} {vs : List V}, Reps K H ds vs → Reps K H ds.reverse vs.reverse
  | [], _, h => by cases h; rfl
  | d :: ds, _, ⟨v, vr, e, h, r⟩ => by subst e; rw [List.reverse_cons, List.reverse_cons]; exact (Reps.reverse r).append (Reps.one h)
theorem lm_reverse : LM K rReverse dReverse := fun x vs H d ds S F QD Q r rs m h k => by
  obtain ⟨a, xs, rfl, e, h'⟩ := onL_e h
  clear h
  have h := h'
  clear h'
  cases r
  obtain ⟨us, g, gr⟩ := m.obj _ _ e
  split at h
  · cases rs
    exact ⟨a, us, rfl, rfl, g, k .non _ .non _ F rfl (lay_lst m e gr.reverse) (Fm.put e) h⟩
  · exact h.elim
def dExtend : RM := fun d ds S Q => onL d S fun a xs => match ds with | [y] => (onL y S fun b ys => xs.length + ys.length ≤ sizeLine ∧ Q .non (sup S a (.lst (xs ++ ys)))) | _ => False
theorem lm_extend : LM K rExtend dExtend := fun x vs H d ds S F QD Q r rs m h k => by
  obtain ⟨a, xs, rfl, e, h'⟩ := onL_e h
  clear h
  have h := h'
  clear h'
  cases r
  obtain ⟨us, g, gr⟩ := m.obj _ _ e
  split at h
  · obtain ⟨y', vr, rfl, ry, rfl⟩ := rs
    obtain ⟨b, ys, rfl, e2, h⟩ := onL_e h
    cases ry
    obtain ⟨us2, g2, gr2⟩ := m.obj _ _ e2
    exact ⟨a, b, us, us2, rfl, rfl, g, g2, by rw [← gr.length, ← gr2.length]; exact h.1, k .non _ .non _ F rfl (lay_lst m e (gr.append gr2)) (Fm.put e) h.2⟩
  · exact h.elim
def dInsert : RM := fun d ds S Q => onL d S fun a xs => match ds with | [.int i, y] => xs.length < sizeLine ∧ 0 ≤ i ∧ i < 2 ^ 63 ∧ Q .non (sup S a (.lst (xs.take i.toNat ++ [y] ++ xs.drop i.toNat))) | _ => False
theorem lm_insert : LM K (fun x vs H Q => ∃ (l : Addr) (xs : List V) (i : Int) (y : V), x = .ref l ∧ vs = [.int i, y] ∧ H l = some (.lst xs) ∧ xs.length < sizeLine ∧ 0 ≤ i ∧ i < 2 ^ 63 ∧ Q .non (upd H l (.lst (xs.take i.toNat ++ [y] ++ xs.drop i.toNat)))) dInsert := fun x vs H d ds S F QD Q r rs m h k => by
  obtain ⟨a, xs, rfl, e, h'⟩ := onL_e h
  clear h
  have h := h'
  clear h'
  cases r
  obtain ⟨us, g, gr⟩ := m.obj _ _ e
  split at h
  · obtain ⟨y1, vr, rfl, ry, y2, vr2, rfl, ry2, rfl⟩ := rs
    cases ry
    exact ⟨a, us, _, y2, rfl, rfl, g, by rw [← gr.length]; exact h.1, h.2.1, h.2.2.1, k .non _ .non _ F rfl (lay_lst m e (((gr.take _).append (Reps.one ry2)).append (gr.drop _))) (Fm.put e) h.2.2.2⟩
  · exact h.elim
end

/-! ### + * of lists -/
def wCatN (wa wb : DA) : DA := fun σ S Q E => wa σ S (fun xs S1 => wb σ S1 (fun ys S2 => xs.length + ys.length ≤ sizeLine ∧ Q (xs ++ ys) S2) E) E
def wCatV (wa : DE) (wb : DA) : DA := fun σ S Q E => wa σ S (fun d S1 => wb σ S1 (fun ys S2 => onL d S2 fun _ xs => xs.length + ys.length ≤ sizeLine ∧ Q (xs ++ ys) S2) E) E
def wCatVV (wa wb : DE) : DA := fun σ S Q E => wa σ S (fun d S1 => wb σ S1 (fun d2 S2 => onL d S2 fun _ xs => onL d2 S2 fun _ ys => xs.length + ys.length ≤ sizeLine ∧ Q (xs ++ ys) S2) E) E
def wCatNV (wa : DA) (wb : DE) : DA := fun σ S Q E => wa σ S (fun xs S1 => wb σ S1 (fun d2 S2 => onL d2 S2 fun _ ys => xs.length + ys.length ≤ sizeLine ∧ Q (xs ++ ys) S2) E) E
theorem end_lst {K : PySem.W.Frag} {H H0 : Hp} {S S0 : Store} {F F0 : Own} {ds : List D} {xs : List V} {QD : List D → Store → Prop} {Q : VK} {l : Addr} (k : PostL K S0 F0 H0 QD Q) (m : Mod K H S F) (f : Fm S0 F0 H0 S F H) (r : Reps K H ds xs) (q : QD ds S) (hl : H l = none) : Q (.ref l) (upd H l (.lst xs)) := by
  obtain ⟨hs, hf⟩ := m.fresh hl
  exact k l xs _ _ S F upd_same hs hf (Nw.back f (.inr (.inr hl))) (Reps.kp (kp_new hl) _ _ r) (m.laid hl) (f.trans (Fm.laid hl)) q
theorem dpl_catN (ha : PLd X W a ws) (hb : PLd X W b vs) : PLd X W (.BinOp a .Add b pos) (wCatN ws vs) :=
  PE.imp (pe_op op_cat ha hb) fun σ H Q ⟨σD, S, F, QD, ED, sl, m, h, k, kx⟩ => by
    refine ⟨σD, S, F, _, ED, sl, m, h, fun p xs H1 ds S1 F1 q1 q2 q3 n r1 m1 f1 h1 => ?_, kx⟩
    refine ⟨σD, S1, F1, _, ED, sl.kp (f1.kp m), m1, h1, fun p2 ys H2 es S2 F2 u1 u2 u3 n2 r2 m2 f2 h2 => ?_, kx.after f1⟩
    obtain ⟨z1, z2, z3⟩ := f2.cl q1 q2 q3
    have r1' := Reps.kp (f2.kp m1) _ _ r1
    exact ⟨p, p2, xs, ys, rfl, rfl, z1, u1, by rw [← r1.length, ← r2.length]; exact h2.1, fun l hl => end_lst k m2 (f1.trans f2) (r1'.append r2) h2.2 hl⟩
theorem dpl_catV (ha : PEd X W a wa) (hb : PLd X W b vs) : PLd X W (.BinOp a .Add b pos) (wCatV wa vs) :=
  PE.imp (pe_op op_cat ha hb) fun σ H Q ⟨σD, S, F, QD, ED, sl, m, h, k, kx⟩ => by
    refine ⟨σD, S, F, _, ED, sl, m, h, fun v H1 d S1 F1 r1 m1 f1 h1 => ?_, kx⟩
    refine ⟨σD, S1, F1, _, ED, sl.kp (f1.kp m), m1, h1, fun p2 ys H2 es S2 F2 u1 u2 u3 n2 r2 m2 f2 h2 => ?_, kx.after f1⟩
    obtain ⟨a, xs, rfl, e, h3⟩ := onL_e h2
    cases r1
    obtain ⟨us, g, gr⟩ := m2.obj _ _ e
    exact ⟨a, p2, us, ys, rfl, rfl, g, u1, by rw [← gr.length, ← r2.length]; exact h3.1, fun l hl => end_lst k m2 (f1.trans f2) (gr.append r2) h3.2 hl⟩
theorem dpl_catVV (ha : PEd X W a wa) (hb : PEd X W b wb) : PLd X W (.BinOp a .Add b pos) (wCatVV wa wb) :=
  PE.imp (pe_op op_cat ha hb) fun σ H Q ⟨σD, S, F, QD, ED, sl, m, h, k, kx⟩ => by
    refine ⟨σD, S, F, _, ED, sl, m, h, fun v H1 d S1 F1 r1 m1 f1 h1 => ?_, kx⟩
    refine ⟨σD, S1, F1, _, ED, sl.kp (f1.kp m), m1, h1, fun v2 H2 d2 S2 F2 r2 m2 f2 h2 => ?_, kx.after f1⟩
    obtain ⟨a, xs, rfl, e, h3⟩ := onL_e h2
    obtain ⟨b, ys, rfl, e2, h4⟩ := onL_e h3
    cases r1
    cases r2
    obtain ⟨us, g, gr⟩ := m2.obj _ _ e
    obtain ⟨us2, g2, gr2⟩ := m2.obj _ _ e2
    exact ⟨a, b, us, us2, rfl, rfl, g, g2, by rw [← gr.length, ← gr2.length]; exact h4.1, fun l hl => end_lst k m2 (f1.trans f2) (gr.append gr2) h4.2 hl⟩
theorem dpl_catNV (ha : PLd X W a ws) (hb : PEd X W b wb) : PLd X W (.BinOp a .Add b pos) (wCatNV ws wb) :=
  PE.imp (pe_op op_cat ha hb) fun σ H Q ⟨σD, S, F, QD, ED, sl, m, h, k, kx⟩ => by
    refine ⟨σD, S, F, _, ED, sl, m, h, fun p xs H1 ds S1 F1 q1 q2 q3 n r1 m1 f1 h1 => ?_, kx⟩
    refine ⟨σD, S1, F1, _, ED, sl.kp (f1.kp m), m1, h1, fun v2 H2 d2 S2 F2 r2 m2 f2 h2 => ?_, kx.after f1⟩
    obtain ⟨z1, z2, z3⟩ := f2.cl q1 q2 q3
    have r1' := Reps.kp (f2.kp m1) _ _ r1
    obtain ⟨b, ys, rfl, e2, h4⟩ := onL_e h2
    cases r2
    obtain ⟨us2, g2, gr2⟩ := m2.obj _ _ e2
    exact ⟨p, b, xs, us2, rfl, rfl, z1, g2, by rw [← r1.length, ← gr2.length]; exact h4.1, fun l hl => end_lst k m2 (f1.trans f2) (r1'.append gr2) h4.2 hl⟩
/-- [..] * k -/
def wRepL (wa : DA) (wb : DE) : DA := fun σ S Q E => wa σ S (fun xs S1 => wb σ S1 (fun d S2 => match d with | .int k => (-(2 ^ 63) ≤ k ∧ k < 2 ^ 63 ∧ xs.length * k.toNat ≤ sizeLine) ∧ Q (List.replicate k.toNat xs).flatten S2 | _ => False) E) E
theorem dpl_rep (ha : PLd X W a ws) (hb : PEd X W b wb) : PLd X W (.BinOp a .Mult b pos) (wRepL ws wb) :=
  PE.imp (pe_op op_rep ha hb) fun σ H Q ⟨σD, S, F, QD, ED, sl, m, h, k, kx⟩ => by
    refine ⟨σD, S, F, _, ED, sl, m, h, fun p xs H1 ds S1 F1 q1 q2 q3 n r1 m1 f1 h1 => ?_, kx⟩
    refine ⟨σD, S1, F1, _, ED, sl.kp (f1.kp m), m1, h1, fun v2 H2 d2 S2 F2 r2 m2 f2 h2 => ?_, kx.after f1⟩
    obtain ⟨z1, z2, z3⟩ := f2.cl q1 q2 q3
    have r1' := Reps.kp (f2.kp m1) _ _ r1
    cases d2 <;> first | exact h2.elim | skip
    rename_i kk
    cases r2
    exact ⟨p, kk, xs, rfl, rfl, z1, h2.1.1, h2.1.2.1, by rw [← r1.length]; exact h2.1.2.2, fun l hl => end_lst k m2 (f1.trans f2) (r1'.rep _) h2.2 hl⟩
/-- xs[lo:hi], xs a list of the store -/
def wSlV (w : DE) (l u : DO) : DA := fun σ S Q E => w σ S (fun d S1 => l σ S1 (fun lo S2 => u σ S2 (fun hi S3 => onL d S3 fun _ xs => Q (cutD xs lo hi) S3) E) E) E
theorem dpl_slV {lo hi : Option Expr} {l u : DO} (he : PEd X W e w) (hl : POd X W lo l) (hu : POd X W hi u) : PLd X W (.Subscript e (.Slice lo hi none p2) pos) (wSlV w l u) :=
  PE.imp (pe_slice sl_list he hl hu) fun σ H Q ⟨σD, S, F, QD, ED, sl, m, h, k, kx⟩ => by
    refine ⟨σD, S, F, _, ED, sl, m, h, fun v H1 d S1 F1 r1 m1 f1 h1 => ?_, kx⟩
    refine ⟨σD, S1, F1, _, ED, sl.kp (f1.kp m), m1, h1, fun lo H2 S2 F2 m2 f2 h2 => ?_, kx.after f1⟩
    have f12 := f1.trans f2
    refine ⟨σD, S2, F2, _, ED, sl.kp (f12.kp m), m2, h2, fun hi H3 S3 F3 m3 f3 h3 => ?_, kx.after f12⟩
    obtain ⟨a, xs, rfl, e, h4⟩ := onL_e h3
    cases r1
    obtain ⟨us, g, gr⟩ := m3.obj _ _ e
    exact ⟨a, us, rfl, SqL.of g, fun l hl => end_lst k m3 (f12.trans f3) (gr.cut lo hi) h4 hl⟩

/-! ### tables of constants -/
def getSS (kvs : List (Str × Str)) (s : Str) : Option Str := (kvs.find? fun kv => decide (kv.1 = s)).map (·.2)
def getSSD (kvs : List (Str × Str)) (s : Str) (z : D) : D := match getSS kvs s with | some y => .str y | none => z
def wDGetC (kvs : List (Str × Str)) (wi wx : DE) : DE := fun σ S Q E => wi σ S (fun i S1 => wx σ S1 (fun z S2 => match i with | .str s => Q (getSSD kvs s z) S2 | _ => False) E) E
def trSS (kvs : List (Str × Str)) : List (TE × TE) := kvs.map fun kv => (tC (.str kv.1), tC (.str kv.2))
theorem pairs_SS : ∀ (kvs : List (Str × Str)) (σ : L2.St) (H : Hp) (Q : List (V × V) → Hp → Prop), Q (kvs.map fun kv => (V.str kv.1, V.str kv.2)) H → tPairs (trSS kvs) σ H Q
  | [], _, _, _, h => h
  | kv :: r, σ, H, Q, h => pairs_SS r σ H _ h
def kvSS (kvs : List (Str × Str)) : List (Key × V) := kvs.map fun kv => (.inr kv.1, .str kv.2)
theorem mergeSS : ∀ (kvs : List (Str × Str)), (kvs.map (·.1)).Nodup → ∀ acc : List (Key × V), (∀ kv ∈ kvs, ∀ a ∈ acc, a.1 ≠ .inr kv.1) → mergeK acc (kvSS kvs) = acc ++ kvSS kvs
  | [], _, acc, _ => by simp [kvSS, mergeK]
  | kv :: r, nd, acc, h => by
    have e : putK acc (.inr kv.1) (.str kv.2) = acc ++ [(.inr kv.1, .str kv.2)] := by
      unfold putK
      rw [if_neg]
      intro z
      obtain ⟨a, ha, hb⟩ := List.any_eq_true.mp z
      exact h kv (by simp) a ha (of_decide_eq_true hb)
    show mergeK (putK acc (.inr kv.1) (.str kv.2)) (kvSS r) = _
    rw [e, mergeSS r (List.nodup_cons.mp nd).2 _ (fun kv' hk a ha => ?_)]
    · simp [kvSS]
    · rcases List.mem_append.mp ha with ha | ha
      · exact h kv' (by simp [hk]) a ha
      · have e2 : a = (.inr kv.1, .str kv.2) := by simpa using ha
        subst e2
        intro z
        have z' : kv.1 = kv'.1 := Sum.inr.inj z
        exact (List.nodup_cons.mp nd).1 (List.mem_map.mpr ⟨kv', hk, z'.symm⟩)
theorem valSS (kvs : List (Str × Str)) (s : Str) : valV (kvSS kvs) (.inr s) = (getSS kvs s).map V.str := by
  unfold valV getSS kvSS
  rw [List.find?_map]
  have e : ((fun kv : Key × V => decide (kv.1 = Sum.inr s)) ∘ fun kv : Str × Str => ((Sum.inr kv.1 : Key), V.str kv.2)) = fun kv => decide (kv.1 = s) := by
    funext kv
    simp
  rw [e]
  cases List.find? (fun kv : Str × Str => decide (kv.1 = s)) kvs <;> rfl
theorem dpe_dgetC {keys : List (Option Expr)} {vals : List Expr} {kvs : List (Str × Str)} (hu : X.A.units + 1 < cLine) (hp : PPs X pos keys vals (trSS kvs)) (nd : (kvs.map (·.1)).Nodup) (h15 : kvs.length ≤ 15) (hi : PEd X W a wa) (hx : PEd X W b wb)
    (m2 : M2 X (.Dict keys vals pos) "get" apos a b cpos) (hall : keys.all (·.isSome) = true := by rfl) (hl : keys.length = vals.length := by rfl) (h0 : keys ≠ [] := by simp) (hk15 : keys.length ≤ 15 := by decide) :
    PEd X W (.Call (.Attribute (.Dict keys vals pos) "get" apos) [a, b] [] cpos) (wDGetC kvs wa wb) :=
  PE.imp (pe_dget2 hu (pe_disp hp hall hl h0 hk15) hi hx m2) fun σ H Q ⟨σD, S, F, QD, ED, sl, m, h, k, kx⟩ => by
    intro p hp'
    refine pairs_SS kvs σ _ _ ⟨upd_same, kvSS kvs, by simp [kvSS, kV], by simpa [kvSS] using h15, ?_⟩
    have em : mergeK [] (kvSS kvs) = kvSS kvs := by
      have := mergeSS kvs nd [] (fun _ _ a ha => by cases ha)
      simpa using this
    rw [em, upd_upd]
    refine ⟨p, rfl, .inl ⟨kvSS kvs, .inl upd_same⟩, ?_⟩
    have f0 : Fm S F H S F (upd H p (.dK (kvSS kvs))) := Fm.laid hp'
    obtain ⟨hs, hf⟩ := m.fresh hp'
    refine ⟨σD, S, F, _, ED, sl.kp (kp_new hp'), m.laid hp', h, fun v H1 d S1 F1 r1 m1 f1 h1 => ?_, kx.after f0⟩
    refine ⟨σD, S1, F1, _, ED, (sl.kp (kp_new hp')).kp (f1.kp (m.laid hp')), m1, h1, fun v2 H2 d2 S2 F2 r2 m2 f2 h2 => ?_, kx.after (f0.trans f1)⟩
    obtain ⟨z1, z2, z3⟩ := f1.cl (upd_same (H := H) (a := p) (o := .dK (kvSS kvs))) hs hf
    obtain ⟨y1, y2, y3⟩ := f2.cl z1 z2 z3
    cases d <;> first | exact h2.elim | skip
    rename_i s
    cases r1
    refine ⟨(getSS kvs s).map V.str, .inl ⟨kvSS kvs, .inr s, .inl y1, rfl, (valSS kvs s).symm⟩, ?_⟩
    have f012 := (f0.trans f1).trans f2
    dsimp only at h2
    unfold getSSD at h2
    cases e : getSS kvs s with
    | none => rw [e] at h2; exact k v2 H2 d2 S2 F2 r2 m2 f012 h2
    | some y => rw [e] at h2; exact k (.str y) H2 (.str y) S2 F2 rfl m2 f012 h2
end
end DL
/-! ## DL9 -/
namespace DL
open PySem PySem.Spec PyProof.Rows L2
/-! ### plain facts -/
theorem atI0 {α : Type} {a : α} {r : List α} : atI (a :: r) 0 = some a := by simp [atI, ixN]
theorem atI1 {α : Type} {a b : α} {r : List α} : atI (a :: b :: r) 1 = some b := by
  unfold atI ixN
  rw [if_pos (by omega), if_pos (by simp only [List.length_cons]; omega)]
  rfl
theorem atI2 {α : Type} {a b c : α} {r : List α} : atI (a :: b :: c :: r) 2 = some c := by
  unfold atI ixN
  rw [if_pos (by omega), if_pos (by simp only [List.length_cons]; omega)]
  rfl
theorem ixN0 {n : Nat} : ixN (n + 1) 0 = some 0 := by simp [ixN]
theorem ixN1 {n : Nat} : ixN (n + 1 + 1) 1 = some 1 := by
  unfold ixN
  rw [if_pos (by omega), if_pos (by omega)]
  rfl
theorem atI_lt {α : Type} {xs : List α} {i : Int} (h0 : 0 ≤ i) (h1 : i < xs.length) : atI xs i = some (xs[i.toNat]'(by omega)) := by
  unfold atI ixN
  rw [if_pos h0, if_pos h1]
  exact List.getElem?_eq_getElem _
theorem ixN_lt {n : Nat} {i : Int} (h0 : 0 ≤ i) (h1 : i < n) : ixN n i = some i.toNat := by
  unfold ixN
  rw [if_pos h0, if_pos h1]
theorem seqIndex0 {n : Nat} : seqIndex? 0 (n + 1) = some 0 := by simp [seqIndex?]
theorem atI_ofN {α : Type} {xs : List α} (i : Nat) : atI xs (i : Int) = xs[i]? := by
  unfold atI ixN
  rw [if_pos (Int.natCast_nonneg i)]
  by_cases h : i < xs.length
  · rw [if_pos (by omega)]; rfl
  · rw [if_neg (by omega), List.getElem?_eq_none (by omega)]; rfl
section
variable {S : Store}
theorem sup_self {a : Addr} {o : MO} (h : S a = some o) : sup S a o = S := by
  funext b
  unfold sup
  split
  · rename_i e; rw [e, h]
  · rfl
theorem sup_comm {a b : Addr} {o u : MO} (h : a ≠ b) : sup (sup S a o) b u = sup (sup S b u) a o := by
  funext c
  unfold sup
  by_cases h1 : c = a
  · subst h1; simp [h]
  · by_cases h2 : c = b
    · subst h2; simp [h1]
    · simp [h1, h2]
theorem pyrs_ints : ∀ {ns : List Int}, PyRs S (ns.map PyData.int) (ns.map D.int)
  | [] => rfl
  | n :: ns => ⟨_, _, rfl, rfl, pyrs_ints⟩
theorem lay_ints : ∀ (ns : List Int), PyData.canLayAll0 (ns.map PyData.int) = true
  | [] => by simp [PyData.canLayAll0]
  | n :: ns => by simp [PyData.canLayAll0, PyData.canLay0, lay_ints ns]
theorem depth_ints : ∀ (ns : List Int), PyData.depthAll (ns.map PyData.int) = 0
  | [] => by simp [PyData.depthAll]
  | n :: ns => by simp [PyData.depthAll, PyData.depth, depth_ints ns]
theorem shaped_li (ns : List Int) : SeqAt.shaped (.list (ns.map .int)) = true := by
  unfold SeqAt.shaped
  simp [PyData.canLay0, PyData.depth, lay_ints, depth_ints]
theorem shaped_ti (ns : List Int) : SeqAt.shaped (.tuple (ns.map .int)) = true := by
  unfold SeqAt.shaped
  simp [PyData.canLay0, PyData.depth, lay_ints, depth_ints]
theorem eqvAll_ints : ∀ (as bs : List Int), PyData.eqvAll (as.map .int) (bs.map .int) = decide (as = bs)
  | [], [] => by simp [PyData.eqvAll]
  | [], _ :: _ => by simp [PyData.eqvAll]
  | _ :: _, [] => by simp [PyData.eqvAll]
  | a :: as, b :: bs => by
    simp only [List.map_cons, PyData.eqvAll, PyData.eqv, eqvAll_ints as bs]
    by_cases h : a = b
    · subst h; simp
    · simp [h]
end
/-! ### the box of draws: opened, closed -/
section
variable {K : PySem.W.Frag} {H H' : Hp} {S S' : Store} {F F' : Own}
def funset (F : Own) (l : Addr) (o : Option Addr) : Own := fun x => if x = l then o else F x
theorem box_open {b : Addr} (m : Mod K H S F) (e : S b = some .box) : ∃ (l : Addr) (z : Int) (ns : List Int), b ≠ l ∧ S l = none ∧ 0 ≤ z ∧ z < 2147483647 ∧ ns.length ≤ 63 ∧
    Mod K H (sup (sup S b (.lst [.ref l, .int z])) l (.lst (ns.map D.int))) (funset F l none) ∧ Fm S F H (sup (sup S b (.lst [.ref l, .int z])) l (.lst (ns.map D.int))) (funset F l none) H := by
  obtain ⟨l, z, ns, h1, h2, h3, h4, h5, h6⟩ := m.obj _ _ e
  obtain ⟨sl, nl⟩ := m.hid _ _ h3
  have ne : b ≠ l := fun q => by rw [q, sl] at e; cases e
  refine ⟨l, z, ns, ne, sl, h4, h5, h6, ⟨fun a o q => ?_, fun x a q => ?_⟩, ⟨fun a o q _ _ => q, fun a q => ?_, fun a q => ?_⟩⟩
  · by_cases ha : a = l
    · subst ha
      rw [sup_same] at q
      cases q
      exact ⟨_, h2, Reps.of_ints ns⟩
    · rw [sup_ne ha] at q
      by_cases hb : a = b
      · subst hb
        rw [sup_same] at q
        cases q
        exact ⟨_, h1, _, _, rfl, rfl, _, _, rfl, rfl, rfl⟩
      · rw [sup_ne hb] at q
        have r := m.obj _ _ q
        cases o with
        | box =>
          obtain ⟨l', z', ns', g1, g2, g3, g4⟩ := r
          have nl' : l' ≠ l := fun q' => by rw [q', h3] at g3; exact hb (Option.some.inj g3).symm
          exact ⟨l', z', ns', g1, g2, by unfold funset; rw [if_neg nl']; exact g3, g4⟩
        | _ => exact r
  · unfold funset at q
    split at q
    · cases q
    · rename_i nx
      obtain ⟨g1, g2⟩ := m.hid _ _ q
      refine ⟨?_, g2⟩
      rw [sup_ne nx, sup_ne (fun z => by rw [z, e] at g1; cases g1)]
      exact g1
  · by_cases ha : a = l
    · subst ha; exact .inr (.inl (by rw [h3]; simp))
    · rw [sup_ne ha] at q
      by_cases hb : a = b
      · subst hb; exact .inl (by rw [e]; simp)
      · rw [sup_ne hb] at q; exact .inl q
  · unfold funset at q
    split at q
    · exact absurd rfl q
    · exact .inr (.inl q)
theorem box_close {b l : Addr} {z : Int} {ns : List Int} (m : Mod K H' S' F') (hb : S' b = some (.lst [.ref l, .int z])) (hl : S' l = some (.lst (ns.map D.int))) (z0 : 0 ≤ z) (z1 : z < 2147483647) (hn : ns.length ≤ 63) (f : Fm S F H S' F' H') (nw : Nw S F H l) :
    Mod K H' (sup (sdel S' l) b .box) (funset F' l (some b)) ∧ Fm S F H (sup (sdel S' l) b .box) (funset F' l (some b)) H' := by
  obtain ⟨vs, h1, r1⟩ := m.obj _ _ hb
  obtain ⟨us, h2, r2⟩ := m.obj _ _ hl
  have e2 := Reps.ints r2
  subst e2
  obtain ⟨v1, vr, rfl, q1, v2, vr2, rfl, q2, rfl⟩ := r1
  cases q1
  cases q2
  have ne : b ≠ l := fun q => by
    rw [q, h2] at h1
    have := HO.lst.inj (Option.some.inj h1)
    cases ns with
    | nil => cases this
    | cons n r => simp at this
  have fl : F' l = none := by
    cases q : F' l with
    | none => rfl
    | some a => have := (m.hid _ _ q).1; rw [hl] at this; cases this
  refine ⟨⟨fun a o q => ?_, fun x a q => ?_⟩, ⟨f.keep, fun a q => ?_, fun a q => ?_⟩⟩
  · by_cases ha : a = b
    · subst ha
      rw [sup_same] at q
      cases q
      exact ⟨l, z, ns, h1, h2, by unfold funset; rw [if_pos rfl], z0, z1, hn⟩
    · rw [sup_ne ha] at q
      unfold sdel at q
      split at q
      · cases q
      · rename_i hal
        have r := m.obj _ _ q
        cases o with
        | box =>
          obtain ⟨l', z', ns', g1, g2, g3, g4⟩ := r
          have nl' : l' ≠ l := fun q' => by rw [q', fl] at g3; cases g3
          exact ⟨l', z', ns', g1, g2, by unfold funset; rw [if_neg nl']; exact g3, g4⟩
        | _ => exact r
  · unfold funset at q
    split at q
    · rename_i hx
      subst hx
      refine ⟨?_, (m.obj _ _ hl).mut⟩
      rw [sup_ne (fun z => ne z.symm)]
      unfold sdel
      rw [if_pos rfl]
    · rename_i nx
      obtain ⟨g1, g2⟩ := m.hid _ _ q
      refine ⟨?_, g2⟩
      rw [sup_ne (fun z => by rw [z, hb] at g1; cases g1)]
      unfold sdel
      rw [if_neg nx]
      exact g1
  · refine f.st a ?_
    by_cases ha : a = b
    · subst ha; rw [hb]; simp
    · rw [sup_ne ha] at q
      unfold sdel at q
      split at q
      · exact absurd rfl q
      · exact q
  · unfold funset at q
    split at q
    · rename_i hx; subst hx; exact nw
    · exact f.hd a q
theorem Cal.imp {P : Program} {w : World} {mg : Str → Option Value} {base : Heap} {x : Str} {k : Nat} {ps : List Str} {sp sp' : SpD} (G : Cal P w K mg base x k ps sp) (h : ∀ vs H Q E, upSp K mg sp' vs H Q E → upSp K mg sp vs H Q E) : Cal P w K mg base x k ps sp' := by
  obtain ⟨f, fd, g, r⟩ := G.ex
  exact ⟨f, fd, g.imp h, r⟩
def sp_takeO : SpD := fun ds S Q _ => match ds with
  | [.ref b, .int many] => ∃ (l : Addr) (z : Int) (ns : List Int), S b = some (.lst [.ref l, .int z]) ∧ S l = some (.lst (ns.map D.int)) ∧ b ≠ l ∧ 0 ≤ z ∧ z < 2147483647 ∧ ns.length ≤ 63 ∧ 0 < many ∧ many.natAbs.log2 < 9000 ∧
      ∀ (k z' : Int) (ns' : List Int), 0 ≤ k → k < many → 0 ≤ z' → z' < 2147483647 → ns'.length ≤ 63 → Q (.int k) (sup (sup S b (.lst [.ref l, .int z'])) l (.lst (ns'.map D.int)))
  | _ => False
/-- a draw below many -/
def sp_take : SpD := fun ds S Q _ => match ds with
  | [.ref b, .int many] => S b = some .box ∧ (0 < many ∧ many.natAbs.log2 < 9000) ∧ ∀ k : Int, 0 ≤ k → k < many → Q (.int k) S
  | _ => False
theorem take_close {P : Program} {w : World} {mg : Str → Option Value} {base : Heap} {x : Str} {k : Nat} {ps : List Str} (G : Cal P w K mg base x k ps sp_takeO) : Cal P w K mg base x k ps sp_take := G.imp fun vs H Q E ⟨ds, S, F, QD, ED, r, m, h, kq, kx⟩ => by
  unfold sp_take at h
  split at h
  · rename_i b many
    obtain ⟨eb, ⟨m0, ml⟩, h⟩ := h
    obtain ⟨l, z, ns, ne, sl, z0, z1, hn, m1, f1⟩ := box_open m eb
    have fl : F l = some b ∨ Nw S F H l := by
      by_cases q : F l = none
      · refine .inr (f1.st l ?_)
        rw [sup_same]; simp
      · exact .inr (.inr (.inl q))
    have nw : Nw S F H l := f1.st l (by rw [sup_same]; simp)
    refine ⟨_, _, _, fun d S' => ∃ (k z' : Int) (ns' : List Int), d = .int k ∧ 0 ≤ z' ∧ z' < 2147483647 ∧ ns'.length ≤ 63 ∧ S' = sup (sup (sup (sup S b (.lst [.ref l, .int z])) l (.lst (ns.map D.int))) b (.lst [.ref l, .int z'])) l (.lst (ns'.map D.int)) ∧ QD (.int k) S,
      ED, r, m1, ⟨l, z, ns, by rw [sup_ne ne, sup_same], sup_same, ne, z0, z1, hn, m0, ml, fun k z' ns' k0 k1 z0' z1' hn' => ⟨k, z', ns', rfl, z0', z1', hn', rfl, h k k0 k1⟩⟩, ?_, kx.after f1⟩
    rintro v H' d S' F' rr m' f' ⟨k, z', ns', rfl, z0', z1', hn', e, q⟩
    obtain ⟨m2, f2⟩ := box_close (b := b) (l := l) (z := z') (ns := ns') m' (by rw [e, sup_ne ne, sup_same]) (by rw [e, sup_same]) z0' z1' hn' (f1.trans f') nw
    have es : sup (sdel S' l) b .box = S := by
      funext c
      rw [e]
      unfold sup sdel
      by_cases hc : c = b
      · subst hc; simp [eb]
      · by_cases hl : c = l
        · subst hl; simp [hc, sl]
        · simp [hc, hl]
    rw [es] at m2 f2
    exact kq v H' (.int k) S _ rr m2 f2 q
  · exact h.elim
end
/-! ### loops -/
theorem forW_ind {St : Store → Prop} {g : DG} {b : DS} {DD : DEnds} (I : List DL.D → DSt → Store → Prop) (h0 : ∀ σ S, I [] σ S → St S ∧ DD.nx σ S)
    (h1 : ∀ d ds σ S, I (d :: ds) σ S → (∀ σ S, I ds σ S → forW St g b ds DD σ S) → St S ∧ g d σ S (fun σ1 S1 => b { DD with nx := forW St g b ds DD, ct := forW St g b ds DD, bk := DD.nx } σ1 S1)) : ∀ {ds : List DL.D} {σ : DSt} {S : Store}, I ds σ S → forW St g b ds DD σ S
  | [], σ, S, h => h0 σ S h
  | d :: ds, σ, S, h => h1 d ds σ S h fun σ' S' h' => forW_ind I h0 h1 h'
theorem lcW_ind {St : Store → Prop} {g : DG} {t : DT} {e : DE} {σ : DSt} {Q : List D → Store → Prop} (I : List D → List D → Store → Prop) (h0 : ∀ acc S, I [] acc S → St S ∧ Q acc S)
    (h1 : ∀ d ds acc S, I (d :: ds) acc S → (∀ acc S, I ds acc S → lcW St g t e σ ds acc S Q) → St S ∧ g d σ S (fun σ1 S1 => t σ1 S1 (fun b S2 => if b = true then e σ1 S2 (fun y S3 => acc.length < sizeLine ∧ lcW St g t e σ ds (acc ++ [y]) S3 Q) XF else lcW St g t e σ ds acc S2 Q) XF)) : ∀ {ds acc : List DL.D} {S : Store}, I ds acc S → lcW St g t e σ ds acc S Q
  | [], acc, S, h => h0 acc S h
  | d :: ds, acc, S, h => h1 d ds acc S h fun acc' S' h' => lcW_ind I h0 h1 h'
/-! ### the box is begun -/
def isInts (d : D) (S : Store) (ns : List Int) : Prop := d = .rl (ns.map D.int) ∨ ∃ a, d = .ref a ∧ S a = some (.lst (ns.map D.int))
def sp_begunO : SpD := fun ds S Q _ => match ds with
  | [d] => ∃ ns : List Int, isInts d S ns ∧ ns.length ≤ 63 ∧ ∀ (l b : Addr) (z : Int), S l = none → (sup S l (.lst (ns.map D.int))) b = none → 0 ≤ z → z < 2147483647 → Q (.ref b) (sup (sup S l (.lst (ns.map D.int))) b (.lst [.ref l, .int z]))
  | _ => False
def sp_begun : SpD := fun ds S Q _ => match ds with
  | [d] => ∃ ns : List Int, isInts d S ns ∧ ns.length ≤ 63 ∧ ∀ b : Addr, S b = none → Q (.ref b) (sup S b .box)
  | _ => False
theorem begun_close {K : PySem.W.Frag} {P : Program} {w : World} {mg : Str → Option Value} {base : Heap} {x : Str} {k : Nat} {ps : List Str} (G : Cal P w K mg base x k ps sp_begunO) : Cal P w K mg base x k ps sp_begun := G.imp fun vs H Q E ⟨ds, S, F, QD, ED, r, m, h, kq, kx⟩ => by
  unfold sp_begun at h
  split at h
  · obtain ⟨ns, hi, hn, h⟩ := h
    refine ⟨_, S, F, fun d S' => ∃ (l b : Addr) (z : Int), d = .ref b ∧ S l = none ∧ S b = none ∧ b ≠ l ∧ 0 ≤ z ∧ z < 2147483647 ∧ S' = sup (sup S l (.lst (ns.map D.int))) b (.lst [.ref l, .int z]) ∧ QD (.ref b) (sup S b .box), ED, r, m, ⟨ns, hi, hn, fun l b z hl hb z0 z1 => ?_⟩, ?_, kx⟩
    · have ne : b ≠ l := fun e => by subst e; rw [sup_same] at hb; cases hb
      rw [sup_ne ne] at hb
      exact ⟨l, b, z, rfl, hl, hb, ne, z0, z1, rfl, h b hb⟩
    · rintro v H' d S' F' rr m' f' ⟨l, b, z, rfl, hl, hb, ne, z0, z1, e, q⟩
      have nw : Nw S F H l := f'.st l (by rw [e, sup_ne (fun z => ne z.symm), sup_same]; simp)
      obtain ⟨m2, f2⟩ := box_close (b := b) (l := l) (z := z) (ns := ns) m' (by rw [e, sup_same]) (by rw [e, sup_ne (fun z => ne z.symm), sup_same]) z0 z1 hn f' nw
      have es : sup (sdel S' l) b .box = sup S b .box := by
        funext c
        rw [e]
        unfold sup sdel
        by_cases hc : c = b
        · subst hc; simp
        · by_cases hl' : c = l
          · subst hl'; simp [hc, hl]
          · simp [hc, hl']
      rw [es] at m2 f2
      exact kq v H' (.ref b) _ _ rr m2 f2 q
  · exact h.elim
/-! ### alike -/
def Alk : Nat → Store → D → D → Prop
  | 0, _, _, _ => False
  | n + 1, S, f, d => match f, d with
    | .non, .non => True
    | .bl a, .bl b => a = b
    | .int a, .int b => a = b
    | .str a, .str b => a = b
    | .tup xs, .tup ys => xs.length = ys.length ∧ xs.length ≤ 1000000000000 ∧ ∀ (i : Nat) (f d : D), xs[i]? = some f → ys[i]? = some d → Alk n S f d
    | .ref a, .ref b => (match S a, S b with
      | some (.lst xs), some (.lst ys) => xs.length = ys.length ∧ xs.length ≤ 1000000000000 ∧ ∀ (i : Nat) (f d : D), xs[i]? = some f → ys[i]? = some d → Alk n S f d
      | _, _ => False)
    | _, _ => False
def sp_alike (n : Nat) : SpD := fun ds S Q _ => match ds with
  | [f, d] => Alk n S f d ∧ Q (.bl true) S
  | _ => False
theorem Def.calF {P : Program} {w : World} {K : PySem.W.Frag} {mg : Str → Option Value} {base : Heap} {x : Str} {st : Stmt} {ps : List Str} (k : Nat) (G : Def K mg x st ps) : Cal P w K mg base x k ps (fun _ _ _ _ => False) := by
  obtain ⟨f, fd, h1, h2, h3⟩ := G.ex
  refine ⟨f, fd, ⟨fun vs H Q E h => ?_, fun A outer s H args us vs Q E _ _ _ _ h => ?_⟩, h2, h1.kp, h3⟩
  · obtain ⟨ds, S, F, QD, ED, _, _, z, _⟩ := h; exact z.elim
  · obtain ⟨ds, S, F, QD, ED, _, _, z, _⟩ := h; exact z.elim
theorem Cal.impD {P : Program} {w : World} {K : PySem.W.Frag} {mg : Str → Option Value} {base : Heap} {x : Str} {k : Nat} {ps : List Str} {sp sp' : SpD} (G : Cal P w K mg base x k ps sp) (h : ∀ ds S Q E, sp' ds S Q E → sp ds S Q E) : Cal P w K mg base x k ps sp' :=
  G.imp fun vs H Q E ⟨ds, S, F, QD, ED, r, m, z, kq, kx⟩ => ⟨ds, S, F, QD, ED, r, m, h _ _ _ _ z, kq, kx⟩
theorem rngD_cons {lo : Int} {n : Nat} : rngD lo (n + 1) = .int lo :: rngD (lo + 1) n := by
  unfold rngD
  rw [List.range_succ_eq_map, List.map_cons, List.map_map]
  simp
  intro a _
  omega
theorem rngD_zero {lo : Int} : rngD lo 0 = [] := rfl
end DL
/-! ## DL10 -/
namespace DL
open PySem PySem.Spec PyProof.Rows L2 LamX
/-! ### a lambda is made -/
def DStep (H H1 : Hp) (P : Addr) (q : Str) : Prop := ∀ (K : PySem.W.Frag) (S : Store) (F : Own), DL.Mod K H S F → S P = some (.tab q) → DL.Mod K H1 S F ∧ Fm S F H S F H1
theorem sup_id {S : Store} {a : Addr} {o : MO} (h : S a = some o) : sup S a o = S := sup_self h
theorem step_frz {H : Hp} {P f : Addr} {q : Str} {o : HO} (hf : H f = none) : DStep H (upd H f o) P q := fun K S F m _ => ⟨m.laid hf, Fm.laid hf⟩
theorem step_tab {H : Hp} {P c : Addr} {q : Str} {ps more : Array Value} (hP : H P = some (.tbl ps)) (hc : H c = none)
    (ok : ∀ H1 : Hp, H1 P = some (.tbl (ps ++ more)) → (∀ b o, H b = some o → (∀ ps, o ≠ .tbl ps) → H1 b = some o) → H1 c = some (CodeO c q) → TabS H1 P q) : DStep H (upd (upd H P (.tbl (ps ++ more))) c (CodeO c q)) P q := fun K S F m e => by
  have nPc : P ≠ c := ne_of_none hP hc
  have eq : upd (upd H P (.tbl (ps ++ more))) c (CodeO c q) = upd (upd H c (CodeO c q)) P (.tbl (ps ++ more)) := by
    funext b
    unfold upd
    by_cases h1 : b = c
    · subst h1; simp [Ne.symm nPc]
    · simp [h1]
  rw [eq]
  have m1 : DL.Mod K (upd H c (CodeO c q)) S F := m.laid hc
  have f1 : Fm S F H S F (upd H c (CodeO c q)) := Fm.laid hc
  have new : ObjR K (upd (upd H c (CodeO c q)) P (.tbl (ps ++ more))) F P (.tab q) := by
    obtain ⟨ps', h1, h2, h3⟩ := ok (upd (upd H c (CodeO c q)) P (.tbl (ps ++ more))) upd_same (fun b o hb ht => by
      rw [upd_ne (fun z => ht ps (Option.some.inj (by rw [← hb, z, hP])).symm.symm), upd_ne (ne_of_none hb hc)]; exact hb) (by rw [upd_ne (Ne.symm nPc), upd_same])
    exact ⟨ps', h1, h2, h3⟩
  have m2 := m1.put e new
  have f2 : Fm S F (upd H c (CodeO c q)) (sup S P (.tab q)) F (upd (upd H c (CodeO c q)) P (.tbl (ps ++ more))) := Fm.put e
  rw [sup_id e] at m2 f2
  exact ⟨m2, f1.trans f2⟩
theorem DStep.trans {H H1 H2 : Hp} {P : Addr} {q : Str} (a : DStep H H1 P q) (b : DStep H1 H2 P q) : DStep H H2 P q := fun K S F m e => by
  obtain ⟨m1, f1⟩ := a K S F m e
  obtain ⟨m2, f2⟩ := b K S F m1 e
  exact ⟨m2, f1.trans f2⟩
section
variable {X : Cx} {pins : List (Addr × Obj)} {σ : L2.St} {H : Hp} {s : Shared}
theorem own_laid {f : Addr} {o : Obj} {h' : Heap} {t' : Nat} (I : Inv X pins σ H s) (hf : s.heap.objs.size ≤ f) (k : ∀ b u, s.heap.get? b = some u → h'.get? b = some u) (e : h'.get? f = some o) : Inv X pins σ (upd H f (.frz o (.own 0))) { s with heap := h', toks := t' } :=
  I.laid k hf ⟨e, o, e⟩
theorem lam_tail {c P : Addr} {q : Str} {params : Arguments} {body : Expr} {scope : Scope} {pos : Pos} {fl : Nat} {dV : Value} {E : Value → Shared → Prop} {Q : Value → Shared → Prop} (I : Inv X pins σ H s) (TB : TabB X.base X.mg c P) (hcode : X.env.code = .ref c)
    (hT : TabS H P q) (hfree : ∀ y ∈ scope.names, y.2 = .free → ∃ c, X.env.cells.lookup y.1 = some c)
    (k : ∀ (f c' : Addr) (doc pm ctv : Value) (H1 : Hp) (s' : Shared), Inv X pins σ H1 s' → DStep H H1 P q → H1 f = some (.frz (lamObj ⟨q, params, body, scope⟩ (cloFrom X.env.cells scope.names []) doc pm ctv dV c') (.own 0)) → H1 c' = some (CodeO c' q) → Q (.ref f) s') :
    wpAny (model X.prog X.w) X.A (makeTail "<lambda>" q params (.expr body) scope X.env dV .none none pos fl) Q E s := by
  obtain ⟨ps, hP, ht, ha⟩ := hT
  have glb := I.mod.glob.keeps I.bk
  have bP := TB.bm.keeps (h' := s.heap) I.bk
  have cH := TB.code.keeps (h' := s.heap) I.bk
  have oP : s.heap.get? P = some { cls := .none, data := .fields ps } := I.hok P _ hP
  cases hc : codeAmong pos ps.toList with
  | none =>
    refine PySem.W.kdv_makeTail (mg := X.mg) (c := c) (P := P) (closure_ok hfree) I.ok.glob glb hcode cH oP ht hc TB.gP bP fun c' ctv doc h' tk hx hge hlt hrec htb => ?_
    obtain ⟨c2, oc, vs, t, e2, hoc, hd, hv⟩ := hrec
    cases e2
    have big : s.heap.objs.size ≤ h'.objs.size := Nat.le_of_lt (Nat.lt_of_le_of_lt hge hlt)
    have fr1 : H c' = none := I.hok.fresh hge
    have eL : (ps ++ #[rawInt pos.line, rawInt pos.col, .ref c']).toList = ps.toList ++ [rawInt pos.line, rawInt pos.col, .ref c'] := by simp
    have I1 := inv_table (t' := tk) (more := #[rawInt pos.line, rawInt pos.col, .ref c']) (h' := h') I hP hx htb hge ⟨oc, vs, t, hoc, hd, hv⟩
    have st1 : DStep H (upd (upd H P (.tbl (ps ++ #[rawInt pos.line, rawInt pos.col, .ref c']))) c' (CodeO c' q)) P q := by
      refine step_tab hP fr1 fun H1 h1 h2 h3 => ⟨_, h1, by rw [eL]; exact PySem.TriplesOk_snoc _ _ _ _ ht, fun p' cv hcv => ?_⟩
      rw [eL] at hcv
      rcases among_app _ ht hcv with z | z
      · obtain ⟨c0, e1, e3⟩ := ha p' cv z
        exact ⟨c0, e1, h2 _ _ e3 codeO_ne⟩
      · exact ⟨c', z, h3⟩
    have fr2 : upd (upd H P (.tbl (ps ++ #[rawInt pos.line, rawInt pos.col, .ref c']))) c' (CodeO c' q) h'.objs.size = none := I1.hok.fresh (Nat.le_refl _)
    have I2 := own_laid (f := h'.objs.size) (o := lamObj ⟨q, params, body, scope⟩ (cloFrom X.env.cells scope.names []) doc ((X.mg "__name__").getD .none) ctv dV c') (h' := h'.push (lamObj ⟨q, params, body, scope⟩ (cloFrom X.env.cells scope.names []) doc ((X.mg "__name__").getD .none) ctv dV c')) (t' := tk) I1 (Nat.le_refl _) (fun b u e => Heap.get?_push_of_some _ e) (Heap.get?_push_size _ rfl)
    exact k _ c' doc _ ctv _ _ I2 (st1.trans (step_frz fr2)) upd_same (by rw [upd_ne (Nat.ne_of_lt hlt), upd_same])
  | some cv =>
    obtain ⟨c', rfl, hco⟩ := ha pos cv hc
    refine PySem.W.kdv_makeTailHit (mg := X.mg) (c := c) (P := P) (closure_ok hfree) I.ok.glob glb hcode cH oP ht hc bP fun ctv doc h' tk hx big => ?_
    have fr2 : H h'.objs.size = none := I.hok.fresh big
    have I2 := own_laid (f := h'.objs.size) (o := lamObj ⟨q, params, body, scope⟩ (cloFrom X.env.cells scope.names []) doc ((X.mg "__name__").getD .none) ctv dV c') (h' := h'.push (lamObj ⟨q, params, body, scope⟩ (cloFrom X.env.cells scope.names []) doc ((X.mg "__name__").getD .none) ctv dV c')) (t' := tk) I big (fun b u e => Heap.get?_push_of_some _ (hx b u e)) (Heap.get?_push_size _ rfl)
    exact k _ c' doc _ ctv _ _ I2 (step_frz fr2) upd_same (by rw [upd_ne (ne_of_none hco fr2)]; exact hco)
end
/-- lambda: .., lambda a=0: .. -/
def wLam (P : Addr) (L : LF) (cells : List (Str × Addr)) : DE := fun _ S Q _ => S P = some (.tab L.qual) ∧ Q (.fn L cells) S
theorem dpe_lam {X : Cx} {W : WX} {params : Arguments} {body : Expr} {scope : Scope} {pos : Pos} {c P : Addr} (TB : TabB X.base X.mg c P) (hcode : X.env.code = .ref c) (hfree : ∀ y ∈ scope.names, y.2 = .free → ∃ c, X.env.cells.lookup y.1 = some c)
    (hkd : params.kw_defaults = []) (hd : params.defaults = [] ∨ ∃ i j p, params.defaults = [.Constant (.int i) j p]) : PEd X W (.Lambda params body scope pos) (wLam P ⟨X.env.qual ++ "<lambda>", params, body, scope⟩ X.env.cells) := by
  refine ⟨fun pins s σ H Q I h => ?_⟩
  obtain ⟨σD, S, F, QD, ED, sl, m, ⟨eP, h⟩, k, kx⟩ := h
  have tb := m.obj _ _ eP
  rcases hd with hd | ⟨i, j, p, hd⟩
  · refine PySem.W.kla_eval (by rw [defaultsOf_eq, hd, hkd]; rfl) ?_
    rw [makeFunction_eq]
    simp only [List.zip_nil_right, List.filterMap_nil, List.isEmpty_nil, if_true, pure_bind]
    refine lam_tail I TB hcode tb hfree fun f c' doc pm ctv H1 s' I1 st hf hc => ?_
    obtain ⟨m1, f1⟩ := st X.K S F m eP
    exact ⟨.ref f, H1, I1, rfl, k (.ref f) H1 (.fn ⟨X.env.qual ++ "<lambda>", params, body, scope⟩ X.env.cells) S F ⟨f, c', doc, pm, ctv, .none, rfl, hf, hc, .inl ⟨hd, rfl⟩, I.ok.inj⟩ m1 f1 h⟩
  · refine PySem.W.kdv_lam (by rw [hd]; rfl) hkd ?_
    rw [hd]
    refine PySem.W.kdv_all1 (PySem.wpAny_mono ((pe_int (X := X) (i := i) (j := j) (pos := p)).run pins s σ H (fun v H1 => v = .int i ∧ H1 = H) I ⟨rfl, rfl⟩) (fun v s1 hq => ?_) fun _ _ z => ?_)
    · obtain ⟨w, H1, I1, rv, rfl, rfl⟩ := hq
      refine PySem.W.kdv_all0 ?_
      rw [makeFunction_eq]
      simp only [List.zip_nil_right, List.filterMap_nil, List.isEmpty_nil, List.isEmpty_cons, Bool.false_eq_true, if_false, if_true, pure_bind]
      refine wpAny_bind (wpAny_newTextTuple ?_)
      have nT : H1 s1.heap.objs.size = none := I1.hok.fresh (Nat.le_refl _)
      have I2 : Inv X pins σ (upd H1 s1.heap.objs.size (.tup [.int i])) { s1 with heap := s1.heap.push { cls := .type "tuple", data := .seq #[v] }, toks := s1.toks } :=
        I1.laid (fun b u e => Heap.get?_push_of_some _ e) (Nat.le_refl _) ⟨(show 1 ≤ sizeLine by decide), [v], .cons rv .nil, ⟨_, Heap.get?_push_size _ rfl, rfl, 0, rfl⟩⟩
      have eP2 : TabS (upd H1 s1.heap.objs.size (.tup [.int i])) P (X.env.qual ++ "<lambda>") := TabS.ext tb fun b o e => by rw [upd_ne (ne_of_none e nT)]; exact e
      refine lam_tail I2 TB hcode eP2 hfree fun f c' doc pm ctv H2 s' I3 st hf hc => ?_
      have m2 : DL.Mod X.K (upd H1 s1.heap.objs.size (.tup [.int i])) S F := m.laid nT
      have f2 : Fm S F H1 S F (upd H1 s1.heap.objs.size (.tup [.int i])) := Fm.laid nT
      obtain ⟨m3, f3⟩ := st X.K S F m2 eP
      have hT : Rd H2 s1.heap.objs.size (.tup [.int i]) := (f3.kp m2).tup _ _ (.inl upd_same)
      exact ⟨.ref f, H2, I3, rfl, k (.ref f) H2 (.fn ⟨X.env.qual ++ "<lambda>", params, body, scope⟩ X.env.cells) S F ⟨f, c', doc, pm, ctv, _, rfl, hf, hc, .inr ⟨by rw [hd]; rfl, _, _, rfl, hT⟩, I.ok.inj⟩ m3 (f2.trans f3) h⟩
    · exact z
end DL
/-! ## DL11 -/
namespace DL
open PySem PySem.Spec PyProof.Rows L2 LamX
/-! ### cells, known for a while -/
abbrev Cs := Addr → Option Obj
def addC (H : Hp) (C : Cs) : Hp := fun a => match C a with | some o => some (.frz o (.own 0)) | none => H a
def delC (H : Hp) (C : Cs) : Hp := fun a => match C a with | some _ => none | none => H a
theorem addC_in {H : Hp} {C : Cs} {a : Addr} {o : Obj} (h : C a = some o) : addC H C a = some (.frz o (.own 0)) := by unfold addC; rw [h]
theorem addC_out {H : Hp} {C : Cs} {a : Addr} (h : C a = none) : addC H C a = H a := by unfold addC; rw [h]
theorem delC_in {H : Hp} {C : Cs} {a : Addr} {o : Obj} (h : C a = some o) : delC H C a = none := by unfold delC; rw [h]
theorem delC_out {H : Hp} {C : Cs} {a : Addr} (h : C a = none) : delC H C a = H a := by unfold delC; rw [h]
theorem delC_some {H : Hp} {C : Cs} {a : Addr} {o : HO} (h : delC H C a = some o) : C a = none ∧ H a = some o := by
  cases e : C a with
  | none => rw [delC_out e] at h; exact ⟨rfl, h⟩
  | some u => rw [delC_in e] at h; cases h
theorem out_of {C : Cs} {a : Addr} (h : ∀ o, C a ≠ some o) : C a = none := by
  cases e : C a with
  | none => rfl
  | some o => exact absurd e (h o)
section
variable {P : Program} {w : World} {H H' : Hp} {C : Cs} {h h' B : Heap} {fs : List Addr}
/-- the sealed cells in H: they stand there, untracked -/
structure Sl (C : Cs) (H : Hp) (h : Heap) (fs : List Addr) : Prop where
  at_ : ∀ a o, C a = some o → h.get? a = some o ∧ H a = none ∧ a ∉ fs
structure Us (C : Cs) (H : Hp) (fs : List Addr) : Prop where
  at_ : ∀ a o, C a = some o → H a = some (.frz o (.own 0)) ∧ a ∉ fs
theorem HOk.add (ok : HOk P w H h) (c : ∀ a o, C a = some o → h.get? a = some o ∧ H a = none) : HOk P w (addC H C) h := fun a u e => by
  cases q : C a with
  | some o =>
    rw [addC_in q] at e
    cases e
    exact ⟨(c a o q).1, o, (c a o q).1⟩
  | none =>
    rw [addC_out q] at e
    have keepH : ∀ b v, H b = some v → addC H C b = some v := fun b v z => by rw [addC_out (out_of fun o y => by rw [(c b o y).2] at z; cases z)]; exact z
    exact (ok a u e).stay (fun _ _ _ z => z) (fun b z => keepH b _ z) fun b xs z => keepH b _ z
theorem HOk.del (ok : HOk P w H h) (c : ∀ a o, C a = some o → H a = some (.frz o (.own 0))) : HOk P w (delC H C) h := fun a u e => by
  obtain ⟨_, e⟩ := delC_some e
  have keepH : ∀ b v, (∀ o w, v ≠ .frz o w) → H b = some v → delC H C b = some v := fun b v nf z => by
    rw [delC_out (out_of fun o y => nf o (.own 0) (Option.some.inj (z.symm.trans (c b o y))))]; exact z
  exact (ok a u e).stay (fun _ _ _ z => z) (fun b z => keepH b _ (fun o w y => by cases y) z) fun b xs z => keepH b _ (fun o w y => by cases y) z
theorem Sl.un (c : Sl C H h fs) (u : Un fs [] (addC H C) H' h h') (ok : HOk P w H' h') : Un fs [] H (delC H' C) h h' := by
  have fz : ∀ a o, C a = some o → H' a = some (.frz o (.own 0)) := fun a o q => u.frzs a o _ (addC_in q)
  have up : ∀ a v, H a = some v → addC H C a = some v ∧ C a = none := fun a v z => by
    have n : C a = none := out_of fun o y => by rw [(c.at_ a o y).2.1] at z; cases z
    exact ⟨by rw [addC_out n]; exact z, n⟩
  refine ⟨fun b o e n hb hx => ?_, fun b o e n hb hx => ?_, fun b o e n hx => ?_, fun b o e hx => u.there b o e hx, fun b xs e => ?_, fun b o v e => ?_, fun b ps e => ?_⟩
  · cases q : C b with
    | none => exact u.keep b o e (by rw [addC_out q]; exact n) hb hx
    | some ob =>
      have e1 := (c.at_ b ob q).1
      rw [e] at e1
      cases e1
      exact (ok b _ (fz b o q)).1
  · have q : C b = none := out_of fun o y => (c.at_ b o y).2.2 hb
    exact u.slot b o e (by rw [addC_out q]; exact n) hb hx
  · cases q : C b with
    | none => rw [delC_out q]; exact u.free b o e (by rw [addC_out q]; exact n) hx
    | some ob => exact delC_in q
  · obtain ⟨a, n⟩ := up b _ e
    rw [delC_out n]; exact u.tups b xs a
  · obtain ⟨a, n⟩ := up b _ e
    rw [delC_out n]; exact u.frzs b o v a
  · obtain ⟨a, n⟩ := up b _ e
    rw [delC_out n]; exact u.tbls b ps a
theorem Us.un (c : Us C H fs) (u : Un fs [] (delC H C) H' h h') : Un fs [] H (addC H' C) h h' := by
  have un0 : ∀ b, H b = none → C b = none := fun b n => out_of fun o y => by rw [(c.at_ b o y).1] at n; cases n
  have dn : ∀ b v, (∀ o w, v ≠ .frz o w) → H b = some v → C b = none := fun b v nf z => out_of fun o y => nf o (.own 0) (Option.some.inj (z.symm.trans (c.at_ b o y).1))
  refine ⟨fun b o e n hb hx => u.keep b o e (by rw [delC_out (un0 b n)]; exact n) hb hx, fun b o e n hb hx => u.slot b o e (by rw [delC_out (un0 b n)]; exact n) hb hx, fun b o e n hx => ?_, fun b o e hx => u.there b o e hx, fun b xs e => ?_, fun b o v e => ?_, fun b ps e => ?_⟩
  · rw [addC_out (un0 b n)]; exact u.free b o e (by rw [delC_out (un0 b n)]; exact n) hx
  · have n := dn b _ (fun o w y => by cases y) e
    rw [addC_out n]; exact u.tups b xs (by rw [delC_out n]; exact e)
  · cases q : C b with
    | none => rw [addC_out q]; exact u.frzs b o v (by rw [delC_out q]; exact e)
    | some ob =>
      have e1 := (c.at_ b ob q).1
      rw [e] at e1
      rw [addC_in q, ← e1]
  · have n := dn b _ (fun o w y => by cases y) e
    rw [addC_out n]; exact u.tbls b ps (by rw [delC_out n]; exact e)
theorem Sl.ub (c : Sl C H h fs) (u : UB fs (addC H C) H' h B h') (ok : HOk P w H' B) : UB fs H (delC H' C) h B h' := by
  have fz : ∀ a o, C a = some o → H' a = some (.frz o (.own 0)) := fun a o q => u.frzs a o _ (addC_in q)
  have up : ∀ a v, H a = some v → addC H C a = some v ∧ C a = none := fun a v z => by
    have n : C a = none := out_of fun o y => by rw [(c.at_ a o y).2.1] at z; cases z
    exact ⟨by rw [addC_out n]; exact z, n⟩
  refine ⟨fun b o e n hb => ?_, u.slot, fun b o e n => ?_, u.there, fun b xs e => ?_, fun b o v e => ?_, fun b ps e => ?_⟩
  · cases q : C b with
    | none => exact u.keep b o e (by rw [addC_out q]; exact n) hb
    | some ob =>
      have e1 := (c.at_ b ob q).1
      rw [e] at e1
      cases e1
      exact (ok b _ (fz b o q)).1
  · cases q : C b with
    | none => rw [delC_out q]; exact u.free b o e (by rw [addC_out q]; exact n)
    | some ob => exact delC_in q
  · obtain ⟨a, n⟩ := up b _ e
    rw [delC_out n]; exact u.tups b xs a
  · obtain ⟨a, n⟩ := up b _ e
    rw [delC_out n]; exact u.frzs b o v a
  · obtain ⟨a, n⟩ := up b _ e
    rw [delC_out n]; exact u.tbls b ps a
theorem Us.ub (c : Us C H fs) (u : UB fs (delC H C) H' h B h') : UB fs H (addC H' C) h B h' := by
  have un0 : ∀ b, H b = none → C b = none := fun b n => out_of fun o y => by rw [(c.at_ b o y).1] at n; cases n
  have dn : ∀ b v, (∀ o w, v ≠ .frz o w) → H b = some v → C b = none := fun b v nf z => out_of fun o y => nf o (.own 0) (Option.some.inj (z.symm.trans (c.at_ b o y).1))
  refine ⟨fun b o e n hb => u.keep b o e (by rw [delC_out (un0 b n)]; exact n) hb, u.slot, fun b o e n => ?_, u.there, fun b xs e => ?_, fun b o v e => ?_, fun b ps e => ?_⟩
  · rw [addC_out (un0 b n)]; exact u.free b o e (by rw [delC_out (un0 b n)]; exact n)
  · have n := dn b _ (fun o w y => by cases y) e
    rw [addC_out n]; exact u.tups b xs (by rw [delC_out n]; exact e)
  · cases q : C b with
    | none => rw [addC_out q]; exact u.frzs b o v (by rw [delC_out q]; exact e)
    | some ob =>
      have e1 := (c.at_ b ob q).1
      rw [e] at e1
      rw [addC_in q, ← e1]
  · have n := dn b _ (fun o w y => by cases y) e
    rw [addC_out n]; exact u.tbls b ps (by rw [delC_out n]; exact e)
/-- behind a call with the cells known: they are forgotten -/
theorem Sl.ce {outer : List Env} {s s' : Shared} {Q Q' : VK} {u : Value} (c : Sl C H s.heap (frs outer)) (x : CE outer P w (addC H C) s Q u s')
    (k : ∀ v H', (∀ a o, C a = some o → H' a = some (.frz o (.own 0))) → Q v H' → Q' v (delC H' C)) : CE outer P w H s Q' u s' := by
  obtain ⟨v, H', os, bare, un, hok, r, q⟩ := x
  have fz : ∀ a o, C a = some o → H' a = some (.frz o (.own 0)) := fun a o z => un.frzs a o _ (addC_in z)
  exact ⟨v, delC H' C, os, bare, c.un un hok, HOk.del hok fz, r, k v H' fz q⟩
theorem Sl.cx {outer : List Env} {s s' : Shared} {E E' : XK} {u : Value} (c : Sl C H s.heap (frs outer)) (x : L2.CX P w outer (addC H C) s E u s')
    (k : ∀ cls d H', (∀ a o, C a = some o → H' a = some (.frz o (.own 0))) → E cls d H' → E' cls d (delC H' C)) : L2.CX P w outer H s E' u s' := by
  obtain ⟨a, B, H', cls, d, e, fly, hok, ub, ha, os, bare, q⟩ := x
  have fz : ∀ a o, C a = some o → H' a = some (.frz o (.own 0)) := fun a o z => ub.frzs a o _ (addC_in z)
  refine ⟨a, B, delC H' C, cls, d, e, fly, HOk.del hok fz, c.ub ub hok, ?_, os, bare, k cls d H' fz q⟩
  cases q : C a with
  | none => rw [delC_out q]; exact ha
  | some o => exact delC_in q
theorem Us.ce {outer : List Env} {s s' : Shared} {Q Q' : VK} {u : Value} (c : Us C H (frs outer)) (hok : HOk P w H s.heap) (x : CE outer P w (delC H C) s Q u s')
    (k : ∀ v H', (∀ a o, C a = some o → H' a = none) → Q v H' → Q' v (addC H' C)) : CE outer P w H s Q' u s' := by
  obtain ⟨v, H', os, bare, un, hok', r, q⟩ := x
  have st : ∀ a o, C a = some o → s.heap.get? a = some o := fun a o z => (hok a _ (c.at_ a o z).1).1
  have nn : ∀ a o, C a = some o → H' a = none := fun a o z => un.free a o (st a o z) (delC_in z) (by simp)
  exact ⟨v, addC H' C, os, bare, c.un un, HOk.add hok' (fun a o z => ⟨un.keep a o (st a o z) (delC_in z) (c.at_ a o z).2 (by simp), nn a o z⟩), r, k v H' nn q⟩
theorem Us.cx {outer : List Env} {s s' : Shared} {E E' : XK} {u : Value} (c : Us C H (frs outer)) (hok : HOk P w H s.heap) (x : L2.CX P w outer (delC H C) s E u s')
    (k : ∀ cls d H', (∀ a o, C a = some o → H' a = none) → E cls d H' → E' cls d (addC H' C)) : L2.CX P w outer H s E' u s' := by
  obtain ⟨a, B, H', cls, d, e, fly, hok', ub, ha, os, bare, q⟩ := x
  have st : ∀ a o, C a = some o → s.heap.get? a = some o := fun a o z => (hok a _ (c.at_ a o z).1).1
  have nn : ∀ a o, C a = some o → H' a = none := fun a o z => ub.free a o (st a o z) (delC_in z)
  have inB : ∀ a o, C a = some o → B.get? a = some o := fun a o z => ub.keep a o (st a o z) (delC_in z) (c.at_ a o z).2
  refine ⟨a, B, addC H' C, cls, d, e, fly, HOk.add hok' (fun a o z => ⟨inB a o z, nn a o z⟩), c.ub ub, ?_, os, bare, k cls d H' nn q⟩
  rw [addC_out (out_of fun o z => by have y := inB a o z; rw [fly.2.1] at y; cases y)]
  exact ha
end
/-! ### values without sealed lambdas -/
mutual
def noS : D → Bool
  | .fnS _ _ _ => false
  | .fn _ _ => false
  | .tup ds => noSs ds
  | .rl ds => noSs ds
  | _ => true
def noSs : List D → Bool
  | [] => true
  | d :: ds => noS d && noSs ds
end
def noSf {α : Type} (fs : List (α × D)) : Bool := fs.all fun p => noS p.2
def noSo : MO → Bool
  | .lst ds => noSs ds
  | .dic kvs => noSf kvs
  | .dit kvs => noSf kvs
  | .ins _ fs => noSf fs
  | .xdo fs => noSf fs
  | _ => true
/-- H' tells what H tells, but for cells -/
structure KpC (H H' : Hp) : Prop where
  tup : ∀ p xs, Rd H p (.tup xs) → Rd H' p (.tup xs)
  code : ∀ c q, H c = some (CodeO c q) → H' c = some (CodeO c q)
  fz : ∀ a o, (∀ v, o.data ≠ .cell v) → Fz H a o → Fz H' a o
  fl : ∀ p o xs, H p = some (.frz o (.lst xs)) → H' p = some (.frz o (.lst xs))
theorem codeO_frz {c : Addr} {q : Str} {o : Obj} {u : HO} : CodeO c q ≠ .frz o u := fun z => by
  unfold CodeO at z
  cases z
theorem delC_eq {H : Hp} {C : Cs} (c : ∀ a o, C a = some o → H a = some (.frz o (.own 0))) {a : Addr} {u : HO} (n : ∀ o, u ≠ .frz o (.own 0)) (e : H a = some u) : delC H C a = some u := by
  rw [delC_out (out_of fun o y => n o (Option.some.inj (e.symm.trans (c a o y))))]; exact e
theorem KpC.del {H : Hp} {C : Cs} (c : ∀ a o, C a = some o → H a = some (.frz o (.own 0))) (cell : ∀ a o, C a = some o → ∃ v, o.data = .cell v) : KpC H (delC H C) where
  tup := fun p xs h => by
    rcases h with h | ⟨o, h⟩
    · exact .inl (delC_eq c (fun _ z => nomatch z) h)
    · exact .inr ⟨o, delC_eq c (fun o z => by cases z) h⟩
  code := fun a q h => delC_eq c (fun o => codeO_frz) h
  fz := fun a o n h => by
    show delC H C a = some (.frz o (.own 0))
    have h' : H a = some (.frz o (.own 0)) := h
    rw [delC_out (out_of fun u y => by
      obtain ⟨v, hv⟩ := cell a u y
      have e := h'.symm.trans (c a u y)
      have e2 : o = u := by
        have e3 := Option.some.inj e
        cases e3
        rfl
      exact n v (by rw [e2]; exact hv))]
    exact h'
  fl := fun p o xs h => delC_eq c (fun o z => by cases z) h
theorem Kp.add {H : Hp} {C : Cs} (c : ∀ a o, C a = some o → H a = none) : Kp H (addC H C) := by
  have k : ∀ a u, H a = some u → addC H C a = some u := fun a u e => by rw [addC_out (out_of fun o y => by rw [c a o y] at e; cases e)]; exact e
  refine ⟨fun p xs h => ?_, fun p q h => k _ _ h, fun a o h => k _ _ h, fun p o xs h => k _ _ h⟩
  rcases h with h | ⟨o, h⟩
  · exact .inl (k _ _ h)
  · exact .inr ⟨o, k _ _ h⟩
section
variable {K : PySem.W.Frag} {H H' : Hp} {S S' : Store} {F F' : Own} {C : Cs}
theorem FnR.kpC (k : KpC H H') {L : LF} {cells : List (Str × Addr)} {v : V} (h : FnR K H L cells v) : FnR K H' L cells v := by
  obtain ⟨f, c, doc, pm, ctv, dV, e, h1, h2, h3, inj⟩ := h
  refine ⟨f, c, doc, pm, ctv, dV, e, k.fz _ _ (fun v z => by cases z) h1, k.code _ _ h2, ?_, inj⟩
  rcases h3 with h3 | ⟨h3, T, w, e2, h4⟩
  · exact .inl h3
  · exact .inr ⟨h3, T, w, e2, k.tup _ _ h4⟩
mutual
theorem Rep.kpC (k : KpC H H') : ∀ (d : D) (v : V), noS d = true → Rep K H d v → Rep K H' d v
  | .non, _, _, h => h
  | .bl _, _, _, h => h
  | .int _, _, _, h => h
  | .str _, _, _, h => h
  | .ref _, _, _, h => h
  | .fn _ _, _, n, _ => by cases n
  | .fnS _ _ _, _, n, _ => by cases n
  | .tup ds, _, n, ⟨p, vs, e, t, r⟩ => ⟨p, vs, e, t.elim (fun t => .inl (k.tup _ _ t)) .inr, Reps.kpC k ds vs n r⟩
  | .rl ds, _, n, ⟨p, vs, e, t, r⟩ => ⟨p, vs, e, t.elim (fun ⟨o, t⟩ => .inl ⟨o, k.fl _ _ _ t⟩) .inr, Reps.kpC k ds vs n r⟩
theorem Reps.kpC (k : KpC H H') : ∀ (ds : List D) (vs : List V), noSs ds = true → Reps K H ds vs → Reps K H' ds vs
  | [], _, _, h => h
  | d :: ds, _, n, ⟨v, vr, e, h, r⟩ => by
    have n' : (noS d && noSs ds) = true := n
    rw [Bool.and_eq_true] at n'
    exact ⟨v, vr, e, Rep.kpC k d v n'.1 h, Reps.kpC k ds vr n'.2 r⟩
end
theorem RepF.kpC {α : Type} (k : KpC H H') {fs : List (α × D)} {vs : List (α × V)} (n : noSf fs = true) (h : RepF K H fs vs) : RepF K H' fs vs := by
  unfold RepF at h ⊢
  induction h with
  | nil => exact .nil
  | @cons p q _ _ r t ih =>
    unfold noSf at n ih
    rw [List.all_cons, Bool.and_eq_true] at n
    exact .cons ⟨r.1, Rep.kpC k _ _ n.1 r.2⟩ (ih n.2)
theorem RepF.kp' {α : Type} (k : Kp H H') {fs : List (α × D)} {vs : List (α × V)} (h : RepF K H fs vs) : RepF K H' fs vs := RepF.kp k h
/-- all objects stand where they stood -/
theorem ObjR.same {a : Addr} {u : MO} (k : KpC H H') (e : ∀ b v, H b = some v → (∀ o, v ≠ .frz o (.own 0)) → H' b = some v) (n : noSo u = true) (h : ObjR K H F a u) : ObjR K H' F a u := by
  cases u with
  | lst ds => obtain ⟨vs, h1, r⟩ := h; exact ⟨vs, e _ _ h1 (fun _ z => nomatch z), Reps.kpC k _ _ n r⟩
  | dic ds => obtain ⟨vs, h1, r⟩ := h; exact ⟨vs, e _ _ h1 (fun _ z => nomatch z), RepF.kpC k n r⟩
  | dit ds => obtain ⟨vs, h1, r⟩ := h; exact ⟨vs, e _ _ h1 (fun _ z => nomatch z), RepF.kpC k n r⟩
  | ins C fs => obtain ⟨dx, vs, h1, r⟩ := h; exact ⟨dx, vs, e _ _ h1 (fun _ z => nomatch z), RepF.kpC k n r⟩
  | xdo fs => obtain ⟨vs, h1, r⟩ := h; exact ⟨vs, e _ _ h1 (fun _ z => nomatch z), RepF.kpC k n r⟩
  | box => obtain ⟨l, z, ns, e1, e2, r⟩ := h; exact ⟨l, z, ns, e _ _ e1 (fun _ z => nomatch z), e _ _ e2 (fun _ z => nomatch z), r⟩
  | tab q =>
    obtain ⟨ps, e1, r1, r2⟩ := h
    refine ⟨ps, e _ _ e1 (fun _ z => nomatch z), r1, fun pos cv hc => ?_⟩
    obtain ⟨c, z1, z2⟩ := r2 pos cv hc
    exact ⟨c, z1, k.code _ _ z2⟩
theorem Kp.toC (k : Kp H H') : KpC H H' := ⟨k.tup, k.code, fun a o _ h => k.fz a o h, k.fl⟩
theorem NoT.of_same {a : Addr} (n : NoT H a) (e : H' a = H a) : NoT H' a where
  there := by rw [e]; exact n.there
  tup := fun xs r => n.tup xs (by
    rcases r with r | ⟨o, r⟩
    · exact .inl (by rw [← e]; exact r)
    · exact .inr ⟨o, by rw [← e]; exact r⟩)
  code := fun q r => n.code q (by rw [← e]; exact r)
  fz := fun q r => n.fz q (by rw [← e]; exact r)
  fl := fun q xs r => n.fl q xs (by rw [← e]; exact r)
def NoSS (S : Store) : Prop := ∀ a o, S a = some o → noSo o = true
def Sub (S0 S : Store) : Prop := ∀ a o, S0 a = some o → S a = some o
/-- the cells are forgotten -/
theorem DL.Mod.del (m : DL.Mod K H S F) (n : NoSS S) (c : ∀ a o, C a = some o → H a = some (.frz o (.own 0))) (cell : ∀ a o, C a = some o → ∃ v, o.data = .cell v) : DL.Mod K (delC H C) S F := by
  refine ⟨fun a o e => (m.obj a o e).same (KpC.del c cell) (fun b v z nz => delC_eq c nz z) (n a o e), fun l a e => ⟨(m.hid l a e).1, ?_⟩⟩
  have nt := (m.hid l a e).2
  exact nt.of_same (delC_out (out_of fun o y => nt.fz o (c l o y)))
theorem addC_eq {a : Addr} {u : HO} (c : ∀ a o, C a = some o → H a = none) (e : H a = some u) : addC H C a = some u := by
  rw [addC_out (out_of fun o y => by rw [c a o y] at e; cases e)]; exact e
theorem ObjR.kpS {a : Addr} {u : MO} (k : Kp H H') (e : ∀ b v, H b = some v → H' b = some v) (h : ObjR K H F a u) : ObjR K H' F a u := by
  cases u with
  | lst ds => obtain ⟨vs, h1, r⟩ := h; exact ⟨vs, e _ _ h1, Reps.kp k _ _ r⟩
  | dic ds => obtain ⟨vs, h1, r⟩ := h; exact ⟨vs, e _ _ h1, RepF.kp k r⟩
  | dit ds => obtain ⟨vs, h1, r⟩ := h; exact ⟨vs, e _ _ h1, RepF.kp k r⟩
  | ins C fs => obtain ⟨dx, vs, h1, r⟩ := h; exact ⟨dx, vs, e _ _ h1, RepF.kp k r⟩
  | xdo fs => obtain ⟨vs, h1, r⟩ := h; exact ⟨vs, e _ _ h1, RepF.kp k r⟩
  | box => obtain ⟨l, z, ns, e1, e2, r⟩ := h; exact ⟨l, z, ns, e _ _ e1, e _ _ e2, r⟩
  | tab q =>
    obtain ⟨ps, e1, r1, r2⟩ := h
    refine ⟨ps, e _ _ e1, r1, fun pos cv hc => ?_⟩
    obtain ⟨c, z1, z2⟩ := r2 pos cv hc
    exact ⟨c, z1, k.code _ _ z2⟩
theorem DL.Mod.add (m : DL.Mod K H S F) (c : ∀ a o, C a = some o → H a = none) : DL.Mod K (addC H C) S F := by
  refine ⟨fun a o e => (m.obj a o e).kpS (Kp.add c) (fun b v z => addC_eq c z), fun l a e => ⟨(m.hid l a e).1, ?_⟩⟩
  have nt := (m.hid l a e).2
  exact nt.of_same (addC_out (out_of fun o y => nt.there (c l o y)))
end
end DL
/-! ## DL12 -/
namespace DL
open PySem PySem.Spec PyProof.Rows L2 LamX
/-! ### a part of the store -/
structure Part (S0 S : Store) : Prop where
  sub : ∀ a o, S0 a = some o → S a = some o
  box : ∀ a, S a = some .box → S0 a = some .box
def joinS (S S0 S' : Store) : Store := fun a => match S0 a, S a with | none, some o => some o | _, _ => S' a
theorem joinS_in {S S0 S' : Store} {a : Addr} {o : MO} (h : S0 a = some o) : joinS S S0 S' a = S' a := by unfold joinS; rw [h]
theorem joinS_out {S S0 S' : Store} {a : Addr} (h : S a = none) : joinS S S0 S' a = S' a := by
  unfold joinS; rw [h]; cases S0 a <;> rfl
theorem joinS_drop {S S0 S' : Store} {a : Addr} {o : MO} (h0 : S0 a = none) (h : S a = some o) : joinS S S0 S' a = some o := by unfold joinS; rw [h0, h]
theorem joinS_cases {S S0 S' : Store} (a : Addr) : (∃ o, S0 a = none ∧ S a = some o ∧ joinS S S0 S' a = some o) ∨ ((S0 a ≠ none ∨ S a = none) ∧ joinS S S0 S' a = S' a) := by
  cases h0 : S0 a with
  | some o => exact .inr ⟨.inl (by simp), joinS_in h0⟩
  | none =>
    cases h : S a with
    | none => exact .inr ⟨.inr rfl, joinS_out h⟩
    | some o => exact .inl ⟨o, rfl, rfl, joinS_drop h0 h⟩
theorem joinS_same {S S0 : Store} (p : Part S0 S) : joinS S S0 S0 = S := by
  funext a
  rcases joinS_cases (S := S) (S0 := S0) (S' := S0) a with ⟨o, _, h, e⟩ | ⟨h, e⟩
  · rw [e, h]
  · rw [e]
    cases q : S0 a with
    | some o => rw [p.sub a o q]
    | none => exact (h.resolve_left (fun z => z q)).symm
theorem joinS_self {S S' : Store} : joinS S S S' = S' := by
  funext a
  unfold joinS
  cases S a <;> rfl
section
variable {K : PySem.W.Frag} {H H' : Hp} {S S0 S' : Store} {F F' : Own} {C : Cs}
/-- what was left out stands as it stood -/
theorem join (p : Part S0 S) (m : DL.Mod K H S F) (m' : DL.Mod K H' S' F') (f : Fm S0 F H S' F' H') : DL.Mod K H' (joinS S S0 S') F' ∧ Fm S F H (joinS S S0 S') F' H' := by
  have m0 : DL.Mod K H S0 F := m.less p.sub
  have k := f.kp m0
  have nF : ∀ a o, S a = some o → F a = none := fun a o e => by
    cases q : F a with
    | none => rfl
    | some b => have z := (m.hid a b q).1; rw [e] at z; cases z
  refine ⟨⟨fun a o e => ?_, fun l a e => ?_⟩, ⟨fun a o e n1 n2 => f.keep a o e (by
      cases q : S0 a with
      | none => rfl
      | some u => rw [p.sub a u q] at n1; cases n1) n2, fun a e => ?_, fun a e => ?_⟩⟩
  · rcases joinS_cases (S := S) (S0 := S0) (S' := S') a with ⟨u, h0, h, q⟩ | ⟨_, q⟩
    · rw [q] at e
      cases e
      have same : ∀ v, H a = some v → H' a = some v := fun v e => f.keep a v e h0 (nF a o h)
      have r := m.obj a o h
      cases o with
      | lst ds => obtain ⟨vs, e1, r⟩ := r; exact ⟨vs, same _ e1, Reps.kp k _ _ r⟩
      | dic ds => obtain ⟨vs, e1, r⟩ := r; exact ⟨vs, same _ e1, r.kp k⟩
      | dit ds => obtain ⟨vs, e1, r⟩ := r; exact ⟨vs, same _ e1, r.kp k⟩
      | ins C fs => obtain ⟨dx, vs, e1, r⟩ := r; exact ⟨dx, vs, same _ e1, r.kp k⟩
      | xdo fs => obtain ⟨vs, e1, r⟩ := r; exact ⟨vs, same _ e1, r.kp k⟩
      | box => rw [p.box a h] at h0; cases h0
      | tab q =>
        obtain ⟨ps, e1, r1, r2⟩ := r
        refine ⟨ps, same _ e1, r1, fun pos cv hc => ?_⟩
        obtain ⟨c, z1, z2⟩ := r2 pos cv hc
        exact ⟨c, z1, k.code _ _ z2⟩
    · rw [q] at e
      exact m'.obj a o e
  · obtain ⟨h1, h2⟩ := m'.hid l a e
    refine ⟨?_, h2⟩
    rcases joinS_cases (S := S) (S0 := S0) (S' := S') l with ⟨u, h0, h, q⟩ | ⟨_, q⟩
    · rcases f.hd l (by rw [e]; simp) with z | z | z
      · exact absurd h0 z
      · exact absurd (nF l u h) z
      · exact absurd z (m.obj l u h).mut.there
    · rw [q]; exact h1
  · rcases joinS_cases (S := S) (S0 := S0) (S' := S') a with ⟨u, h0, h, q⟩ | ⟨_, q⟩
    · exact .inl (by rw [h]; simp)
    · rw [q] at e
      rcases f.st a e with z | z | z
      · refine .inl (fun n => z ?_)
        cases q : S0 a with
        | none => rfl
        | some u => rw [p.sub a u q] at n; cases n
      · exact .inr (.inl z)
      · exact .inr (.inr z)
  · rcases f.hd a e with z | z | z
    · refine .inl (fun n => z ?_)
      cases q : S0 a with
      | none => rfl
      | some u => rw [p.sub a u q] at n; cases n
    · exact .inr (.inl z)
    · exact .inr (.inr z)
/-- the frame, told with the cells -/
theorem Fm.back (c : ∀ a o, C a = some o → H a = some (.frz o (.own 0))) (cn : ∀ a o, C a = some o → H' a = none) (m' : DL.Mod K H' S' F') (f : Fm S0 F (delC H C) S' F' H') : Fm S0 F H S' F' (addC H' C) := by
  refine ⟨fun a o e n1 n2 => ?_, fun a e => ?_, fun a e => ?_⟩
  · cases q : C a with
    | none => rw [addC_out q]; exact f.keep a o (by rw [delC_out q]; exact e) n1 n2
    | some ob => rw [addC_in q, ← e, c a ob q]
  · rcases f.st a e with z | z | z
    · exact .inl z
    · exact .inr (.inl z)
    · cases q : C a with
      | none => rw [delC_out q] at z; exact .inr (.inr z)
      | some ob =>
        cases r : S' a with
        | none => exact absurd r e
        | some u => exact absurd (cn a ob q) (m'.obj a u r).mut.there
  · rcases f.hd a e with z | z | z
    · exact .inl z
    · exact .inr (.inl z)
    · cases q : C a with
      | none => rw [delC_out q] at z; exact .inr (.inr z)
      | some ob =>
        cases r : F' a with
        | none => exact absurd r e
        | some u => exact absurd (cn a ob q) (m'.hid a u r).2.there
end
/-! ### a lambda is called -/
structure LamF (L : LF) (vals : List (Str × D)) : Prop where
  kind : L.scope.kind = .function
  co : L.scope.isCoroutine = false
  gen : L.scope.isGenerator = false
  own : ∀ y ∈ L.scope.names, y.2 ≠ .cell
  free : ∀ y ∈ L.scope.names, y.2 = .free → y.1 ∈ vals.map (·.1)
  par : ∀ y, L.scope.names.lookup y = some .local → y ∉ vals.map (·.1)
  bind0 : L.params.defaults = [] → ∀ cl doc pm cdv ctv, bindArgs (PySem.W.kdv_fn "<lambda>" L.qual L.params (.expr L.body) L.scope cl .none doc pm cdv ctv) ⟨[], []⟩ = pure []
  bind1 : L.params.defaults.length = 1 → ∃ p, L.scope.names.lookup p = some .local ∧ ∀ cl T doc pm cdv ctv, ∃ k, bindArgs (PySem.W.kdv_fn "<lambda>" L.qual L.params (.expr L.body) L.scope cl (.ref T) doc pm cdv ctv) ⟨[], []⟩ = seqItems? (.ref T) >>= k ∧ ∀ v, k (some #[v]) = pure [(p, v)]
abbrev lamEnvD (L : LF) (cl : List (Str × Addr)) (loc f c : Addr) : Env := PySem.W.envX L.qual L.scope loc f (.ref c) cl
/-- the body's context -/
def lamCxD (P : Program) (w : World) (K : PySem.W.Frag) (mg : Str → Option Value) (base : Heap) (N : List Str) (L : LF) (cl : List (Str × Addr)) (f c : Addr) (A : Around) (outer : List Env) (s : Shared) (H : Hp) (E : XK) : Cx where
  prog := P
  w := w
  K := K
  mg := mg
  base := base
  A := A.deeper (lamEnvD L cl s.heap.objs.size f c)
  N := N
  s_0 := s
  H_0 := H
  env := lamEnvD L cl s.heap.objs.size f c
  outer := outer
  stack := lamEnvD L cl s.heap.objs.size f c :: outer
  ex := []
  fn := fun _ => false
  calm := true
  pn := []
  xe := fun e s' => wpAny (model P w) (A.deeper (lamEnvD L cl s.heap.objs.size f c)) (leaving (lamEnvD L cl s.heap.objs.size f c) e) (fun _ s2 => L2.CX P w outer H s E e s2) (fun e' s2 => L2.CX P w outer H s E e' s2) s'
section
variable {P : Program} {w : World} {K : PySem.W.Frag} {mg : Str → Option Value} {base : Heap} {A : Around} {outer : List Env} {s : Shared} {H : Hp} {E : XK} {L : LF} {vals : List (Str × D)} {cells : List (Str × Addr)} {f c : Addr}
theorem clo_lk (has : ∀ y ∈ L.scope.names, y.2 = .free → ∃ c, cells.lookup y.1 = some c) {y : Str} {a : Addr} (e : (cloFrom cells L.scope.names []).lookup y = some a) : cells.lookup y = some a ∧ (y, NameKind.free) ∈ L.scope.names := by
  rcases cloFrom_mem (PySem.mem_of_lookup e) with hm | ⟨h1, h2⟩
  · cases hm
  · obtain ⟨c1, hc⟩ := has _ h1 rfl
    have hc : cells.lookup y = some c1 := hc
    refine ⟨?_, h1⟩
    rw [h2, hc]
    rfl
theorem lam_enter {σ : L2.St} {h₁ : Heap} {tk : Nat} {binds : List (Str × Value)} (lf : LamF L vals) (e0 : Env0 P w K mg base A outer s H) (hd : A.handled = none) (inj : ∀ x y a, cells.lookup x = some a → cells.lookup y = some a → x = y)
    (hv : ∀ y ∈ vals.map (·.1), ∃ a o u, cells.lookup y = some a ∧ s.heap.get? a = some o ∧ o.data = .cell (some u) ∧ H a = none ∧ ∀ (i : Nat) (v : V), (vals.map (·.1))[i]? = some y → σ[i]? = some (some v) → RelV v u) (hl : σ.length = (vals.map (·.1)).length)
    (hns : h₁.Ns s.heap.objs.size fun y => binds.reverse.lookup y) (kp : ∀ b o, s.heap.get? b = some o → h₁.get? b = some o) :
    Inv (lamCxD P w K mg base (vals.map (·.1)) L (cloFrom cells L.scope.names []) f c A outer s H E) [] σ H { s with heap := h₁, toks := tk } := by
  have has : ∀ y ∈ L.scope.names, y.2 = .free → ∃ c, cells.lookup y.1 = some c := fun y hy e => by
    obtain ⟨a, o, u, h1, _⟩ := hv y.1 (lf.free y hy e)
    exact ⟨a, h1⟩
  have look : ∀ {y}, L.scope.names.lookup y = some .free → ∃ a, (cloFrom cells L.scope.names []).lookup y = some a := fun {y} hl => mem_lookup (cloFrom_has (cells := cells) (acc := []) (PySem.mem_of_lookup hl))
  have cellAt : ∀ {y a}, (cloFrom cells L.scope.names []).lookup y = some a → ∃ o u, s.heap.get? a = some o ∧ o.data = .cell (some u) ∧ H a = none ∧ ∀ (i : Nat) (v : V), (vals.map (·.1))[i]? = some y → σ[i]? = some (some v) → RelV v u := fun {y a} e => by
    obtain ⟨e1, e2⟩ := clo_lk has e
    obtain ⟨a', o, u, h1, h2, h3, h4, h5⟩ := hv y (lf.free _ e2 rfl)
    rw [e1] at h1
    cases h1
    exact ⟨o, u, h2, h3, h4, h5⟩
  have nil : ∀ b : Addr, b ∉ (lamCxD P w K mg base (vals.map (·.1)) L (cloFrom cells L.scope.names []) f c A outer s H E).ex := fun b z => absurd (show b ∈ ([] : List Addr) from z) (by simp)
  have ok : Cx.Ok (lamCxD P w K mg base (vals.map (·.1)) L (cloFrom cells L.scope.names []) f c A outer s H E) := {
    mod := e0.mod
    kind := lf.kind
    glob := rfl
    blt := rfl
    above := Nat.le_refl _
    inj := fun y z a e1 e2 => inj y z a (clo_lk has e1).1 (clo_lk has e2).1
    has := fun y hy => by
      have hy : L.scope.names.lookup y = some .cell ∨ L.scope.names.lookup y = some .free := hy
      rcases hy with hy | hy
      · exact absurd rfl (lf.own _ (PySem.mem_of_lookup hy))
      · exact look hy
    cab := fun y a z _ => by
      have z : false = true := z
      cases z
    hd := fun _ => hd
    frames := Around.frames_deeper e0.frames
    stk := .inr ⟨rfl, rfl⟩
    exf := fun b z => absurd z (nil b)
    bs := e0.bs
    bsz := e0.bsz
    noex := fun b _ _ => nil b
    exfs := fun b z => absurd z (nil b)
    funs := e0.funs
    frf := e0.frf }
  refine { ok := ok, os := rfl, bare := e0.bare, base := Un.kept kp, loc := ⟨_, hns, fun i y v e1 e2 e3 => ?_⟩, cell := fun y a e => ?_, free := e0.hok.fresh (Nat.le_refl _), freeC := fun y a e => ?_, pin := fun q hq => absurd (show q ∈ ([] : List (Addr × Obj)) ++ [] from hq) (by simp), hok := e0.hok.kept kp, len := hl }
  · have e1 : (vals.map (·.1))[i]? = some y := e1
    have e3 : Vis L.scope y := e3
    rcases e3 with k | k | k
    · exact absurd (List.mem_of_getElem? e1) (lf.par y k)
    · exact absurd rfl (lf.own _ (PySem.mem_of_lookup k))
    · obtain ⟨a, ha⟩ := look k
      obtain ⟨o, u, h1, h2, h3, h4⟩ := cellAt ha
      exact ⟨u, h4 i v e1 e2, .inr ⟨.inr k, a, ha, ⟨o, kp _ _ h1, h2⟩⟩⟩
  · obtain ⟨o, u, h1, h2, _⟩ := cellAt e
    exact ⟨some u, o, kp _ _ h1, h2⟩
  · obtain ⟨o, u, h1, h2, h3, _⟩ := cellAt e
    exact h3
end
/-- the cells that a sealed lambda leans on -/
def cellsOf (H : Hp) (cells : List (Str × Addr)) (vals : List (Str × D)) : Cs := fun a => if a ∈ vals.filterMap (fun p => cells.lookup p.1) then (match H a with | some (.frz o (.own 0)) => some o | _ => none) else none
theorem cellsOf_some {H : Hp} {cells : List (Str × Addr)} {vals : List (Str × D)} {a : Addr} {o : Obj} (h : cellsOf H cells vals a = some o) : a ∈ vals.filterMap (fun p => cells.lookup p.1) ∧ H a = some (.frz o (.own 0)) := by
  unfold cellsOf at h
  split at h
  · rename_i hm
    split at h
    · cases h
      exact ⟨hm, by assumption⟩
    · cases h
  · cases h
theorem RepC.at_ {K : PySem.W.Frag} {H : Hp} {cells : List (Str × Addr)} : ∀ {vals : List (Str × D)}, RepC K H cells vals → ∀ p ∈ vals, ∃ c o u v, cells.lookup p.1 = some c ∧ Fz H c o ∧ o.data = .cell (some u) ∧ RelV v u ∧ Rep K H p.2 v
  | [], _, p, hp => by cases hp
  | (y, d) :: r, ⟨h, hr⟩, p, hp => by
    rcases List.mem_cons.mp hp with e | hp
    · subst e; exact h
    · exact RepC.at_ hr p hp
theorem RepC.vs {K : PySem.W.Frag} {H : Hp} {cells : List (Str × Addr)} : ∀ {vals : List (Str × D)}, RepC K H cells vals → ∃ vs : List V, vs.length = vals.length ∧ ∀ (i : Nat) (p : Str × D), vals[i]? = some p → ∃ c o u v, cells.lookup p.1 = some c ∧ Fz H c o ∧ o.data = .cell (some u) ∧ RelV v u ∧ Rep K H p.2 v ∧ vs[i]? = some v
  | [], _ => ⟨[], rfl, fun i p e => by simp at e⟩
  | (y, d) :: r, ⟨⟨c, o, u, v, h1, h2, h3, h4, h5⟩, hr⟩ => by
    obtain ⟨vs, hl, h⟩ := RepC.vs hr
    refine ⟨v :: vs, by simp [hl], fun i p e => ?_⟩
    cases i with
    | zero =>
      have e : (y, d) = p := by simpa using e
      subst e
      exact ⟨c, o, u, v, h1, h2, h3, h4, h5, rfl⟩
    | succ i =>
      obtain ⟨c', o', u', v', g⟩ := h i p (by simpa using e)
      exact ⟨c', o', u', v', by simpa using g⟩
theorem RepC.fun {K : PySem.W.Frag} {H : Hp} {cells : List (Str × Addr)} {vals : List (Str × D)} (h : RepC K H cells vals) : ∀ a o, cellsOf H cells vals a = some o → ∃ v, o.data = .cell v := fun a o e => by
  obtain ⟨hm, hz⟩ := cellsOf_some e
  obtain ⟨p, hp, hl⟩ := List.mem_filterMap.mp hm
  obtain ⟨c, o', u, v, h1, h2, h3, _⟩ := h.at_ p hp
  rw [hl] at h1
  cases h1
  have e2 : some (HO.frz o (.own 0)) = some (.frz o' (.own 0)) := hz.symm.trans h2
  cases e2
  exact ⟨_, h3⟩
section
variable {P : Program} {w : World} {K : PySem.W.Frag} {mg : Str → Option Value} {base : Heap} {k : Nat} {L : LF} {vals : List (Str × D)} {cells : List (Str × Addr)}
/-- what a lambda's body does where the captured names hold vals -/
structure LamB (P : Program) (w : World) (K : PySem.W.Frag) (mg : Str → Option Value) (base : Heap) (k : Nat) (L : LF) (vals : List (Str × D)) (wb : DE) : Prop where
  lf : LamF L vals
  body : ∀ (A : Around) (outer : List Env) (s : Shared) (H : Hp) (E : XK) (cl : List (Str × Addr)) (f c : Addr), Room k (A.deeper (lamEnvD L cl s.heap.objs.size f c)) →
    PEd (lamCxD P w K mg base (vals.map (·.1)) L cl f c A outer s H E) (fun cls d _ H => E cls d H) L.body wb
theorem lam_code {A : Around} {outer : List Env} {s : Shared} {H : Hp} {wb : DE} {f : Addr} {S S0 : Store} {F : Own} {QD : DK} {ED : XE} {Q : VK} {E : XK} (b : LamB P w K mg base k L vals wb) (hr : Room (k + 1) A) (e0 : Env0 P w K mg base A outer s H) (fr : FnR K H L cells (.ref f)) (rc : RepC K H cells vals)
    (m : DL.Mod K H S F) (p : Part S0 S) (n : NoSS S0) (nv : ∀ p ∈ vals, noS p.2 = true) {Q0 : DK} {E0 : XE} (h : wb (vals.map fun p => some p.2) S0 Q0 E0) (hq0 : ∀ d S', Q0 d S' → QD d (joinS S S0 S')) (he0 : ∀ e S', E0 e S' → ED e (joinS S S0 S'))
    (kq : Post K S F H QD Q) (kx : PostX K mg S F H ED E) : codeAny (model P w) A (.call (.ref f) ⟨[], []⟩) (CR (L2.CX P w) outer P w H s Q E) s := by
  obtain ⟨f', c, doc, pm, ctv, dV, ef, hf, hc, hdf, inj⟩ := fr
  cases ef
  have hC := fun a o (e : cellsOf H cells vals a = some o) => (cellsOf_some e).2
  have us : Us (cellsOf H cells vals) H (frs outer) := ⟨fun a o e => ⟨hC a o e, fun z => by have y := e0.frf a z; rw [hC a o e] at y; cases y⟩⟩
  have hcell := rc.fun
  have kc : KpC H (delC H (cellsOf H cells vals)) := KpC.del hC hcell
  have e1 : Env0 P w K mg base A outer s (delC H (cellsOf H cells vals)) := {
    frames := e0.frames
    mod := e0.mod
    bs := fun a o e => ⟨(e0.bs a o e).1, by
      cases q : cellsOf H cells vals a with
      | none => rw [delC_out q]; exact (e0.bs a o e).2
      | some u => exact delC_in q⟩
    bsz := e0.bsz
    funs := e0.funs
    frf := fun a z => by
      cases q : cellsOf H cells vals a with
      | none => rw [delC_out q]; exact e0.frf a z
      | some u => exact delC_in q
    hok := HOk.del e0.hok hC
    bare := e0.bare }
  obtain ⟨vs, hvl, hvs⟩ := rc.vs
  have hin : ∀ (i : Nat) (p : Str × D), vals[i]? = some p → ∀ a o, cells.lookup p.1 = some a → Fz H a o → cellsOf H cells vals a = some o := fun i p e a o h1 h2 => by
    have h2' : H a = some (.frz o (.own 0)) := h2
    unfold cellsOf
    rw [if_pos (List.mem_filterMap.mpr ⟨p, List.mem_of_getElem? e, h1⟩)]
    simp only [h2']
  have m0 : DL.Mod K (delC H (cellsOf H cells vals)) S0 F := DL.Mod.del (m.less p.sub) n hC hcell
  have sl : SlR K (delC H (cellsOf H cells vals)) (vals.map fun p => some p.2) (vs.map some) := ⟨by simp [hvl], fun i d e => by
    rw [List.getElem?_map] at e
    cases q : vals[i]? with
    | none => rw [q] at e; cases e
    | some pd =>
      rw [q] at e
      cases e
      obtain ⟨a, o, u, v, h1, h2, h3, h4, h5, h6⟩ := hvs i pd q
      exact ⟨v, by rw [List.getElem?_map, h6]; rfl, Rep.kpC kc _ _ (nv pd (List.mem_of_getElem? q)) h5⟩⟩
  have of1 : s.heap.get? f = some (lamObj L (cloFrom cells L.scope.names []) doc pm ctv dV c) := (e0.hok f _ hf).1
  obtain ⟨⟨oc, ovs, ot, hoc, hdc, hvc⟩, _, _⟩ := e0.hok c _ hc
  let Q1 : VK := fun v H' => ∃ d S' F', Rep K H' d v ∧ DL.Mod K H' S' F' ∧ Fm S0 F (delC H (cellsOf H cells vals)) S' F' H' ∧ QD d (joinS S S0 S')
  let E1 : XK := fun cls dd H' => ∃ e S' F', ExcR K mg H' e cls dd ∧ DL.Mod K H' S' F' ∧ Fm S0 F (delC H (cellsOf H cells vals)) S' F' H' ∧ ED e (joinS S S0 S')
  have run : codeAny (model P w) A (.call (.ref f) ⟨[], []⟩) (CR (L2.CX P w) outer P w (delC H (cellsOf H cells vals)) s Q1 E1) s := by
    refine PySem.W.kla_callFunE hr.depth of1 rfl b.lf.co b.lf.gen rfl ⟨c, oc, ovs, ot, rfl, hoc, hdc, hvc⟩ ?_
    have bnd : ∃ binds : List (Str × Value), (∀ y ∈ binds, L.scope.names.lookup y.1 = some .local) ∧ BindsTo s (PySem.W.kdv_fn "<lambda>" L.qual L.params (.expr L.body) L.scope (cloFrom cells L.scope.names []) dV doc pm (.ref c) ctv) ⟨[], []⟩ binds := by
      rcases hdf with ⟨hd, rfl⟩ | ⟨hd, T, v, rfl, hT⟩
      · exact ⟨[], (fun y hy => absurd hy (by simp)), (fun M A' E' Q' q => by rw [b.lf.bind0 hd]; exact wpAny_pure q)⟩
      · obtain ⟨pn, hp, hb⟩ := b.lf.bind1 hd
        obtain ⟨kk, hb1, hb2⟩ := hb (cloFrom cells L.scope.names []) T doc pm (.ref c) ctv
        obtain ⟨_, its, rv, o, g1, g2, nn, g3⟩ := Rd.ok hT e0.hok
        cases rv with
        | cons r1 r2 =>
          cases r2
          rename_i u
          refine ⟨[(pn, u)], fun y hy => ?_, BindsTo.of_defaults rfl g1 g3 hb1 (hb2 u)⟩
          have e : y = (pn, u) := by simpa using hy
          subst e
          exact hp
    obtain ⟨binds, hloc, hb⟩ := bnd
    refine hb _ _ _ _ ?_
    refine wpAny_newFunctionEnv b.lf.own hloc (fun h₁ hns hsb => ⟨(e0.mod.nolimit.keeps fun b o e => (e0.bs b o e).1).fresh _ hsb, ?_⟩) b.lf.kind
    show codeAny _ _ (.expr L.body (lamEnvD L (cloFrom cells L.scope.names []) s.heap.objs.size f c)) _ _
    have kp : ∀ b o, s.heap.get? b = some o → h₁.get? b = some o := fun b o e => hsb.extBut b o (Nat.ne_of_lt (Heap.lt_size e)) (Heap.get?_push_of_some _ e)
    have J : Inv (lamCxD P w K mg base (vals.map (·.1)) L (cloFrom cells L.scope.names []) f c A outer s (delC H (cellsOf H cells vals)) E1) [] (vs.map some) (delC H (cellsOf H cells vals)) { s with heap := h₁, toks := s.toks + binds.length } := by
      refine lam_enter b.lf e1 hr.hd inj (fun y hy => ?_) (by simp [hvl]) hns kp
      obtain ⟨pd, hp, rfl⟩ := List.mem_map.mp hy
      obtain ⟨a, o, u, v, h1, h2, h3, h4, h5⟩ := rc.at_ pd hp
      obtain ⟨i0, hi0⟩ := List.getElem?_of_mem hp
      refine ⟨a, o, u, h1, (e0.hok a _ h2).1, h3, delC_in (hin i0 pd hi0 a o h1 h2), fun i v' hi hv' => ?_⟩
      rw [List.getElem?_map] at hi hv'
      cases q : vals[i]? with
      | none => rw [q] at hi; cases hi
      | some pd' =>
        rw [q] at hi
        have en : pd'.1 = pd.1 := Option.some.inj hi
        obtain ⟨a2, o2, u2, v2, g1, g2, g3, g4, g5, g6⟩ := hvs i pd' q
        rw [g6] at hv'
        cases hv'
        rw [en, h1] at g1
        cases g1
        have e2 : some (HO.frz o (.own 0)) = some (.frz o2 (.own 0)) := h2.symm.trans g2
        cases e2
        rw [h3] at g3
        cases g3
        exact g4
    have hpe := b.body A outer s (delC H (cellsOf H cells vals)) E1 (cloFrom cells L.scope.names []) f c (hr.deeper _)
    refine PySem.W.kla_codeExpr (wpAny_mono (hpe.run [] _ _ _ Q1 J ⟨_, S0, F, _, _, sl, m0, h, fun v H' d S' F' r m' f' q => ⟨d, S', F', r, m', f', hq0 d S' q⟩, fun cls dd H' e S' F' r m' f' q => ⟨e, S', F', r, m', f', he0 e S' q⟩⟩) (fun v s' hq => ?_) fun e s' hq => hq)
    obtain ⟨w', H', J', rv, q⟩ := hq
    exact ⟨w', H', J'.os, J'.bare, J'.base, J'.hok, rv, q⟩
  refine codeAny_mono run fun r s' hq => ?_
  have lift : ∀ {H' : Hp} {S' : Store} {F' : Own}, (∀ a o, cellsOf H cells vals a = some o → H' a = none) → DL.Mod K H' S' F' → Fm S0 F (delC H (cellsOf H cells vals)) S' F' H' → DL.Mod K (addC H' (cellsOf H cells vals)) (joinS S S0 S') F' ∧ Fm S F H (joinS S S0 S') F' (addC H' (cellsOf H cells vals)) := fun cn m' f' =>
    join p m (DL.Mod.add m' cn) (Fm.back hC cn m' f')
  cases r with
  | error e =>
    refine Us.cx us e0.hok hq fun cls dd H' cn ⟨e, S', F', r, m', f', q⟩ => ?_
    obtain ⟨m2, f2⟩ := lift cn m' f'
    exact kx cls dd _ e _ _ r m2 f2 q
  | ok fl =>
    cases fl with
    | ret u =>
      refine Us.ce us e0.hok hq fun v H' cn ⟨d, S', F', r, m', f', q⟩ => ?_
      obtain ⟨m2, f2⟩ := lift cn m' f'
      exact kq v _ d _ _ (Rep.kp (Kp.add cn) _ _ r) m2 f2 q
    | next => exact hq
    | brk => exact hq
    | cont => exact hq
end
/-- x(), x a sealed lambda -/
def wFn (P : Program) (w : World) (K : PySem.W.Frag) (mg : Str → Option Value) (base : Heap) (k i : Nat) : DE := fun σ S Q E => match σ[i]? with
  | some (some (.fnS L cells vals)) => ∃ S0 wb Q0 E0, LamB P w K mg base k L vals wb ∧ Part S0 S ∧ NoSS S0 ∧ (∀ p ∈ vals, noS p.2 = true) ∧ wb (vals.map fun p => some p.2) S0 Q0 E0 ∧ (∀ d S', Q0 d S' → Q d (joinS S S0 S')) ∧ ∀ e S', E0 e S' → E e (joinS S S0 S')
  | _ => False
theorem dpe_fn {X : Cx} {W : WX} {k i : Nat} {a : Str} {p1 p2 : Pos} (hr : Room (k + 1) X.A) (tk : Takes X W) (hN : X.N[i]? = some a := by rfl) (hv : Vis X.env.scope a := by first | exact Or.inl rfl | exact Or.inr (Or.inl rfl) | exact Or.inr (Or.inr rfl)) (hd : (a == ("__debug__" : Str)) = false := by decide)
    (hcd : (a == ("__classdict__" : Str)) = false := by decide) : PEd X W (.Call (.Name a p1) [] [] p2) (wFn X.prog X.w X.K X.mg X.base k i) := by
  refine ⟨fun pins s σ H Q I h => ?_⟩
  obtain ⟨σD, S, F, QD, ED, sl, m, h, kq, kx⟩ := h
  unfold wFn at h
  split at h
  · rename_i L cells vals e
    obtain ⟨S0, wb, Q0, E0, b, p, n, nv, h, hq0, he0⟩ := h
    obtain ⟨v, e1, fr, rc⟩ := sl.at_ i _ e
    refine wpAny_Call_Name_kw (thn ((pe_var (pos := p1) (i := i) hN hv hd hcd).run pins s σ H (fun u H1 => u = v ∧ H1 = H) I ⟨v, e1, rfl, rfl⟩) fun u s1 ⟨v1, H1, I1, r1, q1⟩ => ?_)
    obtain ⟨ev, eH⟩ := q1
    rw [ev] at r1
    rw [eH] at I1
    obtain ⟨f, c, doc, pm, ctv, dV, ef, hf, rest⟩ := id fr
    rw [ef] at r1
    obtain rfl : u = Value.ref f := r1
    refine PySem.W.callWith_F0 ⟨_, _, _, _, (I1.hok f _ hf).1⟩ ?_
    have run := lam_code (E := fun c d H' => W c d σ H') b hr I1.env0 (ef ▸ fr) rc m p n nv h hq0 he0 kq kx
    refine wpAny_call (codeAny_mono run fun r s' hq => ?_)
    cases r with
    | error e => exact passAt tk σ pins H s1 e s' I1 hq
    | ok fl =>
      cases fl with
      | ret u => exact I1.after hq
      | next => exact False.elim hq
      | brk => exact False.elim hq
      | cont => exact False.elim hq
  · exact h.elim
theorem dpe_fnE {X : Cx} {W : WX} {P : Program} {w : World} {K : PySem.W.Frag} {mg : Str → Option Value} {base : Heap} {k i : Nat} {a : Str} {p1 p2 : Pos} (hr : Room (k + 1) X.A) (tk : Takes X W) (hP : X.prog = P) (hw : X.w = w) (hK : X.K = K) (hmg : X.mg = mg) (hb : X.base = base) (hN : X.N[i]? = some a := by rfl)
    (hv : Vis X.env.scope a := by first | exact Or.inl rfl | exact Or.inr (Or.inl rfl) | exact Or.inr (Or.inr rfl)) (hd : (a == ("__debug__" : Str)) = false := by decide) (hcd : (a == ("__classdict__" : Str)) = false := by decide) : PEd X W (.Call (.Name a p1) [] [] p2) (wFn P w K mg base k i) := by
  subst hP hw hK hmg hb
  exact dpe_fn hr tk hN hv hd hcd
end DL
/-! ## DL13 -/
namespace DL
open PySem PySem.Spec PyProof.Rows L2 LamX
/-! ### a def gets lambdas of this def: the cells are known while it runs -/
def valsD (σ : DSt) : List (Str × Nat) → List (Str × D)
  | [] => []
  | (y, i) :: r => match σ[i]? with | some (some d) => (y, d) :: valsD σ r | _ => valsD σ r
theorem valsD_mem {σ : DSt} : ∀ {ns : List (Str × Nat)} {p : Str × D}, p ∈ valsD σ ns → ∃ q ∈ ns, q.1 = p.1 ∧ σ[q.2]? = some (some p.2)
  | [], p, h => by cases h
  | (y, i) :: r, p, h => by
    unfold valsD at h
    split at h
    · rename_i d e
      rcases List.mem_cons.mp h with z | h
      · subst z; exact ⟨(y, i), by simp, rfl, e⟩
      · obtain ⟨q, hq, e1, e2⟩ := valsD_mem h
        exact ⟨q, by simp [hq], e1, e2⟩
    · obtain ⟨q, hq, e1, e2⟩ := valsD_mem h
      exact ⟨q, by simp [hq], e1, e2⟩
def sealD (cells : List (Str × Addr)) (vals : List (Str × D)) : D → D
  | .fn L c => if c = cells then .fnS L c vals else .fn L c
  | d => d
def sealO (cells : List (Str × Addr)) (vals : List (Str × D)) : MO → MO
  | .lst ds => .lst (ds.map (sealD cells vals))
  | o => o
def sealS (cells : List (Str × Addr)) (vals : List (Str × D)) (S : Store) : Store := fun a => (S a).map (sealO cells vals)
section
variable {K : PySem.W.Frag} {H : Hp} {S : Store} {F : Own} {cells : List (Str × Addr)} {vals : List (Str × D)}
theorem Rep.seal (rc : RepC K H cells vals) : ∀ {d : D} {v : V}, Rep K H d v → Rep K H (sealD cells vals d) v
  | .fn L c, v, h => by
    show Rep K H (if c = cells then .fnS L c vals else .fn L c) v
    by_cases e : c = cells
    · rw [if_pos e]
      subst e
      exact ⟨h, rc⟩
    · rw [if_neg e]
      exact h
  | .non, _, h => h
  | .bl _, _, h => h
  | .int _, _, h => h
  | .str _, _, h => h
  | .ref _, _, h => h
  | .tup _, _, h => h
  | .fnS _ _ _, _, h => h
  | .rl _, _, h => h
theorem Reps.seal (rc : RepC K H cells vals) : ∀ {ds : List D} {vs : List V}, Reps K H ds vs → Reps K H (ds.map (sealD cells vals)) vs
  | [], _, h => h
  | d :: ds, _, ⟨v, vr, e, h, r⟩ => ⟨v, vr, e, Rep.seal rc h, Reps.seal rc r⟩
theorem sealS_none {a : Addr} : sealS cells vals S a = none ↔ S a = none := by
  unfold sealS
  cases S a <;> simp
theorem Mod.seal (rc : RepC K H cells vals) (m : DL.Mod K H S F) : DL.Mod K H (sealS cells vals S) F := by
  refine ⟨fun a o e => ?_, fun l a e => ⟨sealS_none.mpr (m.hid l a e).1, (m.hid l a e).2⟩⟩
  unfold sealS at e
  cases q : S a with
  | none => rw [q] at e; cases e
  | some u =>
    rw [q] at e
    cases e
    have r := m.obj a u q
    cases u with
    | lst ds => obtain ⟨vs, e1, r⟩ := r; exact ⟨vs, e1, Reps.seal rc r⟩
    | _ => exact r
def sealC (h : Heap) (cells : List (Str × Addr)) (vals : List (Str × D)) : Cs := fun a => if a ∈ vals.filterMap (fun p => cells.lookup p.1) then h.get? a else none
theorem sealC_some {h : Heap} {a : Addr} {o : Obj} (e : sealC h cells vals a = some o) : a ∈ vals.filterMap (fun p => cells.lookup p.1) ∧ h.get? a = some o := by
  unfold sealC at e
  split at e
  · exact ⟨by assumption, e⟩
  · cases e
end
/-- x(..), where lambdas of this def's cells are among what is handed -/
def wCallS (cells : List (Str × Addr)) (names : List (Str × Nat)) (ws : DA) (sp : SpD) : DE := fun σ S Q E => ws σ S (fun ds S1 => ∃ S0, (∀ a o, S0 a = some o → S1 a = some o) ∧
  sp (ds.map (sealD cells (valsD σ names))) (sealS cells (valsD σ names) S0) (fun d S' => noS d = true ∧ ∃ S2, (∀ a o, S2 a = some o → S' a = some o) ∧ NoSS S2 ∧ Q d S2) XF) E
theorem dpe_calS {X : Cx} {W : WX} {e : Expr} {es : List Expr} {ws : DA} {pos p : Pos} {x : Str} {k j : Nat} {ps : List Str} {sp : SpD} {names : List (Str × Nat)} (G : Cal X.prog X.w X.K X.mg X.base x k ps sp) (hr : Room j X.A) (hkj : k ≤ j) (hg : Gl X x) (tk : Takes X W) (ha : PAd X W (e :: es) ws)
    (hfn : ∀ y, X.fn y = true) (hnm : ∀ q ∈ names, X.N[q.2]? = some q.1 ∧ X.env.scope.names.lookup q.1 = some .cell)
    (hdb : (x == ("__debug__" : Str)) = false := by decide) (he : starEach (e :: es) X.env = (false, eval e X.env) :: starEach es X.env := by rfl) (hpl : (backTo pos (starEach es X.env)).any (·.1) = false := by rfl) :
    PEd X W (.Call (.Name x p) (e :: es) [] pos) (wCallS X.env.cells names ws sp) := by
  obtain ⟨f, fd, FO, hm, hkp, hb⟩ := G.ex
  refine ⟨fun pins s σ H Q I h => ?_⟩
  obtain ⟨σD, S, F, QD, ED, sl, m, h, kq, kx⟩ := h
  refine wpAny_Call_Name_kw (ld_glob I hg hm ?_ hdb)
  refine PySem.W.callWith_K (h₀ := X.base) I.ok.mod.kin hkp (thn (ha.run pos pins s σ H (fun vs H1 => ∃ ds S1 F1, Reps X.K H1 ds vs ∧ DL.Mod X.K H1 S1 F1 ∧ Fm S F H S1 F1 H1 ∧ ∃ S0, (∀ a o, S0 a = some o → S1 a = some o) ∧
      sp (ds.map (sealD X.env.cells (valsD σD names))) (sealS X.env.cells (valsD σD names) S0) (fun d S' => noS d = true ∧ ∃ S2, (∀ a o, S2 a = some o → S' a = some o) ∧ NoSS S2 ∧ QD d S2) XF) I
      ⟨σD, S, F, _, ED, sl, m, h, fun vs H1 ds S1 F1 r1 m1 f1 q => ⟨ds, S1, F1, r1, m1, f1, q⟩, kx⟩) fun us s1 ⟨vs, H1, I1, r, q⟩ => ⟨I1.kIn, ?_⟩) he hpl
  obtain ⟨ds, S1, F1, r1, m1, f1, S0, sub, q⟩ := q
  have sl1 := sl.kp (f1.kp m)
  -- the cells
  have hcell : ∀ p ∈ valsD σD names, ∃ c o u v, X.env.cells.lookup p.1 = some c ∧ s1.heap.get? c = some o ∧ o.data = .cell (some u) ∧ L2.RelV v u ∧ Rep X.K H1 p.2 v := fun p hp => by
    obtain ⟨nm, hn, e1, e2⟩ := valsD_mem hp
    obtain ⟨hN, hc⟩ := hnm nm hn
    obtain ⟨v, e3, rv⟩ := sl1.at_ nm.2 p.2 e2
    obtain ⟨mm, hns, hl⟩ := I1.loc
    obtain ⟨u, ru, lk⟩ := hl nm.2 nm.1 v hN e3 (.inr (.inl hc))
    rcases lk with ⟨z, _⟩ | ⟨_, c, e4, o, e5, e6⟩
    · have z : X.env.scope.names.lookup nm.1 = some .local := z
      rw [hc] at z; cases z
    · exact ⟨c, o, u, v, by rw [← e1]; exact e4, e5, e6, ru, rv⟩
  have hC : ∀ a o, sealC s1.heap X.env.cells (valsD σD names) a = some o → s1.heap.get? a = some o ∧ H1 a = none ∧ a ∉ frs X.stack ∧ X.base.get? a = none ∧ ∃ v, o.data = .cell v := fun a o e => by
    obtain ⟨hm1, hg1⟩ := sealC_some e
    obtain ⟨p, hp, hl⟩ := List.mem_filterMap.mp hm1
    obtain ⟨c, o', u, v, h1, h2, h3, _⟩ := hcell p hp
    rw [hl] at h1
    cases h1
    rw [hg1] at h2
    cases h2
    have ab : X.s_0.heap.objs.size ≤ a := I1.ok.cab p.1 a (hfn _) hl
    refine ⟨hg1, I1.freeC p.1 a hl, fun z => ?_, Heap.get?_none_of_le (Nat.le_trans I1.ok.bsz ab), _, h3⟩
    rcases List.mem_cons.mp (I1.stkSub a z) with z | z
    · exact I1.cne p.1 a hl z
    · obtain ⟨_, o2, ho2, _⟩ := I1.ok.funs.mem z
      exact Nat.lt_irrefl _ (Nat.lt_of_lt_of_le (Heap.lt_size ho2) ab)
  have cn : ∀ a o, sealC s1.heap X.env.cells (valsD σD names) a = some o → H1 a = none := fun a o e => (hC a o e).2.1
  have slc : Sl (sealC s1.heap X.env.cells (valsD σD names)) H1 s1.heap (frs X.stack) := ⟨fun a o e => ⟨(hC a o e).1, (hC a o e).2.1, (hC a o e).2.2.1⟩⟩
  have e0 := I1.env0
  have e1 : Env0 X.prog X.w X.K X.mg X.base X.A X.stack s1 (addC H1 (sealC s1.heap X.env.cells (valsD σD names))) := {
    frames := e0.frames
    mod := e0.mod
    bs := fun b o e => ⟨(e0.bs b o e).1, by
      rw [addC_out (out_of fun u z => by rw [(hC b u z).2.2.2.1] at e; cases e)]; exact (e0.bs b o e).2⟩
    bsz := e0.bsz
    funs := e0.funs
    frf := fun b z => by rw [addC_out (out_of fun u y => (hC b u y).2.2.1 z)]; exact e0.frf b z
    hok := HOk.add e0.hok fun a o e => ⟨(hC a o e).1, (hC a o e).2.1⟩
    bare := e0.bare }
  have kp := Kp.add cn
  have rc : RepC X.K (addC H1 (sealC s1.heap X.env.cells (valsD σD names))) X.env.cells (valsD σD names) := by
    have all : ∀ l : List (Str × D), (∀ p ∈ l, p ∈ valsD σD names) → RepC X.K (addC H1 (sealC s1.heap X.env.cells (valsD σD names))) X.env.cells l := fun l => by
      induction l with
      | nil => intro _; trivial
      | cons p l ih =>
        intro hl
        obtain ⟨c, o, u, v, h1, h2, h3, h4, h5⟩ := hcell p (hl p (by simp))
        have hz : sealC s1.heap X.env.cells (valsD σD names) c = some o := by
          unfold sealC
          rw [if_pos (List.mem_filterMap.mpr ⟨p, hl p (by simp), h1⟩)]
          exact h2
        exact ⟨⟨c, o, u, v, h1, addC_in hz, h3, h4, Rep.kp kp _ _ h5⟩, ih fun q hq => hl q (by simp [hq])⟩
    exact all _ fun _ h => h
  have m2 : DL.Mod X.K (addC H1 (sealC s1.heap X.env.cells (valsD σD names))) (sealS X.env.cells (valsD σD names) S0) F1 := Mod.seal rc (DL.Mod.add (m1.less sub) cn)
  have r2 : Reps X.K (addC H1 (sealC s1.heap X.env.cells (valsD σD names))) (ds.map (sealD X.env.cells (valsD σD names))) vs := Reps.seal rc (Reps.kp kp _ _ r1)
  let Q1 : VK := fun v H' => ∃ d S' F', Rep X.K H' d v ∧ DL.Mod X.K H' S' F' ∧ Fm (sealS X.env.cells (valsD σD names) S0) F1 (addC H1 (sealC s1.heap X.env.cells (valsD σD names))) S' F' H' ∧ noS d = true ∧ ∃ S2, (∀ a o, S2 a = some o → S' a = some o) ∧ NoSS S2 ∧ QD d S2
  have hsp : upSp X.K X.mg sp vs (addC H1 (sealC s1.heap X.env.cells (valsD σD names))) Q1 (fun _ _ _ => False) := ⟨_, _, _, _, _, r2, m2, q, fun v H' d S' F' rr mm ff qq => ⟨d, S', F', rr, mm, ff, qq⟩, fun _ _ _ _ _ _ _ _ _ z => z.elim⟩
  have hlen : us.length = ps.length := by rw [← r.length]; exact FO.len _ _ _ _ hsp
  have hbs := hb s1 us I1.kIn (by rw [List.append_nil]; exact hlen)
  rw [List.append_nil] at hbs
  have run := FO.run X.A X.stack s1 (addC H1 (sealC s1.heap X.env.cells (valsD σD names))) ⟨us, []⟩ us vs Q1 (fun _ _ _ => False) (hr.mono hkj) e1 hbs r hsp
  refine wpAny_call (codeAny_mono run fun r s' hq => ?_)
  cases r with
  | error e =>
    have c := Sl.cx (E' := fun _ _ _ => False) slc hq fun _ _ _ _ z => z
    exact passAt L2.takes0 σ pins H1 s1 e s' I1 c
  | ok fl =>
    cases fl with
    | ret u =>
      refine I1.after (Sl.ce slc hq fun v H' fz ⟨d, S', F', rr, mm, ff, nd, S2, sub2, n2, qd⟩ => ?_)
      have cell : ∀ a o, sealC s1.heap X.env.cells (valsD σD names) a = some o → ∃ v, o.data = .cell v := fun a o e => (hC a o e).2.2.2.2
      refine kq v _ d S2 F' (Rep.kpC (KpC.del fz cell) _ _ nd rr) (DL.Mod.del (mm.less sub2) n2 fz cell) (f1.trans ⟨fun a o e z1 z2 => ?_, fun a e => ?_, fun a e => ?_⟩) qd
      · have no : sealC s1.heap X.env.cells (valsD σD names) a = none := out_of fun u z => by rw [cn a u z] at e; cases e
        rw [delC_out no]
        refine ff.keep a o (by rw [addC_out no]; exact e) (sealS_none.mpr ?_) z2
        cases q : S0 a with
        | none => rfl
        | some u => rw [sub a u q] at z1; cases z1
      · have e' : S' a ≠ none := fun z => by
          cases q : S2 a with
          | none => exact e q
          | some u => rw [sub2 a u q] at z; cases z
        rcases ff.st a e' with z | z | z
        · refine .inl fun y => z (sealS_none.mpr ?_)
          cases q : S0 a with
          | none => rfl
          | some u => rw [sub a u q] at y; cases y
        · exact .inr (.inl z)
        · cases q : sealC s1.heap X.env.cells (valsD σD names) a with
          | none => rw [addC_out q] at z; exact .inr (.inr z)
          | some u => exact .inr (.inr (cn a u q))
      · rcases ff.hd a e with z | z | z
        · refine .inl fun y => z (sealS_none.mpr ?_)
          cases q : S0 a with
          | none => rfl
          | some u => rw [sub a u q] at y; cases y
        · exact .inr (.inl z)
        · cases q : sealC s1.heap X.env.cells (valsD σD names) a with
          | none => rw [addC_out q] at z; exact .inr (.inr z)
          | some u => exact .inr (.inr (cn a u q))
    | next => exact False.elim hq
    | brk => exact False.elim hq
    | cont => exact False.elim hq
end DL
/-! ## DL14 -/
namespace DL
open PySem PySem.Spec PyProof.Rows L2
/-! ### try: .., except x as n: .. -/
def wTry (i : Nat) (cat : Str → Option Bool) (wb : DS) (ws : ExcD → Addr → DS) : DS := fun D σ S => wb { D with ex := fun e σ' S' => match cat e.name with
  | some true => ∀ a, S' a = none → ws e a { nx := fun σ2 S2 => D.nx (σ2.set i none) S2, rt := D.rt, bk := fun σ2 S2 => D.bk (σ2.set i none) S2, ct := fun σ2 S2 => D.ct (σ2.set i none) S2, ex := fun _ _ _ => False } (σ'.set i (some (.ref a))) S'
  | some false => D.ex e σ' S'
  | none => False } σ S
theorem SlR.gone {K : PySem.W.Frag} {H : Hp} {σD : DSt} {σ : L2.St} (h : SlR K H σD σ) (i : Nat) : SlR K H (σD.set i none) (σ.set i none) := by
  refine ⟨by rw [List.length_set, List.length_set]; exact h.len, fun j e q => ?_⟩
  by_cases hj : i = j
  · subst hj
    by_cases hl : i < σD.length
    · rw [List.getElem?_set_self hl] at q; cases q
    · rw [List.getElem?_eq_none (by rw [List.length_set]; omega)] at q; cases q
  · rw [List.getElem?_set_ne hj] at q ⊢
    exact h.at_ j e q
section
variable {X : Cx} {x n : Str} {c : Value} {i : Nat} {body suite : List Stmt} {b₀ : Stmt} {np pos pos' : Pos} {W : WX} {cat : Str → Option Bool} {wb : DS} {ws : ExcD → Addr → DS}
theorem dps_try (hs : X.stack = X.env :: X.outer) (hf : X.env.frame = some X.env.locals) (hN : X.N.Nodup) (hi : X.N[i]? = some n) (hln : X.env.kindOf n = some .local) (hc : Names X x c) (tk : Takes X W)
    (hcat : ∀ nm b cls, cat nm = some b → X.mg nm = some cls → PySem.W.exmOne X.K cls c = some b)
    (hb : ∀ (W' : WX) (pn : List (Addr × Obj)) (xe : Value → Shared → Prop), Takes (X.tr pn xe) W' → PSsd (X.tr pn xe) W' body wb)
    (hsu : ∀ (e : ExcD) (a : Addr) (oe : Obj) (cls : Value) (pn : List (Addr × Obj)), cat e.name = some true → X.mg e.name = some cls → Zc cls e.at_ oe → (∃ vs, oe.data = .fields vs) → PSsd (X.suite a ((a, oe) :: pn)) (fun _ _ _ _ => False) (b₀ :: suite) (ws e a)) :
    PSd X W (.Try body [.ExceptHandler (some (.Name x np)) (some n) (b₀ :: suite) pos'] [] [] pos) (wTry i cat wb ws) := by
  refine PS.imp (ps_try_as (i := i) (tb := fun W' => upS X.K X.mg W' wb) (ts := fun a cls d D σ H => ∃ e : ExcD, cat e.name = some true ∧ X.mg e.name = some cls ∧ e.at_ = d ∧ upS X.K X.mg (fun _ _ _ _ => False) (ws e a) D σ H) hs hf hN hi hln hc tk (fun W' pn xe tk' _ => hb W' pn xe tk')
    (fun a oe cls d pn hz hv => ⟨fun pins s σ H D I ⟨e, h0, h1, h2, h3⟩ => (hsu e a oe cls pn h0 h1 (h2 ▸ hz) hv).run pins s σ H D I h3⟩)) fun D σ H ⟨σD, S, F, DD, sl, m, h, k⟩ => ?_
  refine ⟨σD, S, F, _, sl, m, h, ⟨k.nx, k.rt, k.bk, k.ct, fun cls dd σ' H' e σD' S' F' r sl' m' f q => ?_⟩⟩
  dsimp only at q
  cases hq : cat e.name with
  | none => rw [hq] at q; exact q.elim
  | some b =>
    rw [hq] at q
    refine ⟨b, hcat e.name b cls hq r.1, fun hb' a ha => ?_, fun hb' => ?_⟩
    · subst hb'
      obtain ⟨na, nf⟩ := m'.fresh ha
      refine ⟨e, hq, r.1, r.2, σD'.set i (some (.ref a)), S', F', _, sl'.set i (d := .ref a) rfl, m', q a na, ?_⟩
      exact ⟨fun σ2 H2 σD2 S2 F2 sl2 m2 f2 q2 => k.nx _ H2 _ S2 F2 (sl2.gone i) m2 (f.trans f2) q2, k.rt.after f, fun σ2 H2 σD2 S2 F2 sl2 m2 f2 q2 => k.bk _ H2 _ S2 F2 (sl2.gone i) m2 (f.trans f2) q2, fun σ2 H2 σD2 S2 F2 sl2 m2 f2 q2 => k.ct _ H2 _ S2 F2 (sl2.gone i) m2 (f.trans f2) q2, fun _ _ _ _ _ _ _ _ _ _ _ _ z => z.elim⟩
    · subst hb'
      exact k.ex cls dd σ' H' e σD' S' F' r sl' m' f q
end
/-! ### in the suite: isinstance(e, C), e.f -/
def xdAt (e : ExcD) (S : Store) : Prop := match e.at_ with | none => True | some dd => (match S dd with | some (.xdo _) => True | _ => False)
def wIsE (i : Nat) (e : ExcD) (a : Addr) (b : Bool) : DE := fun σ S Q _ => σ[i]? = some (some (.ref a)) ∧ xdAt e S ∧ Q (.bl b) S
/-- what the class of an exception must say -/
structure ExK (K : PySem.W.Frag) (D : Addr) : Prop where
  cl : (PySem.W.clsIn K D).isSome = true
  hg : PySem.W.findIn K (.ref D) "__getattribute__" = some (some (.builtin "BaseException.__getattribute__"))
  hk : PySem.W.findIn K (.ref D) "__getattr__" = some none
  hs : PySem.W.subIn K (.ref D) (.type "BaseException") = some true
  ha : PySem.W.findIn K (.ref D) "__class__" = some (some (.builtin "object.__class__"))
  hn : PySem.W.specialIn K (.builtin "object.__class__") "__get__" = some (some (.builtin "getset_descriptor.__get__"))
  ht : PySem.W.takesIn K (.builtin "object.__class__") = some true
  hm : PySem.W.mroIn K D (.type "object") = some true
theorem pair_look {K : PySem.W.Frag} {H : Hp} {f : Str} {d : D} : ∀ {fs : List (Str × D)} {vs : List (Str × V)}, RepF K H fs vs → fs.lookup f = some d → ∃ v, vs.lookup f = some v ∧ Rep K H d v
  | _, _, .nil, e => by cases e
  | p :: fs, q :: vs, .cons r t, e => by
    obtain ⟨pf, pd⟩ := p
    obtain ⟨qf, qv⟩ := q
    obtain ⟨e1, r⟩ := r
    have e1 : pf = qf := e1
    subst e1
    rw [List.lookup_cons] at e ⊢
    split at e
    · cases e; exact ⟨qv, rfl, r⟩
    · exact pair_look t e
theorem isE_call {X : Cx} {a D : Addr} {d : Option Addr} {oe : Obj} {pn : List (Addr × Obj)} (C : ExK X.K D) (hz : Zc (.ref D) d oe) (hf : ∃ vs, oe.data = .fields vs) :
    CallR (X.suite a ((a, oe) :: pn)) (.builtin "isinstance") (fun xs H Q => ∃ (c : V) (cv : Value) (b : Bool), xs = [.ref a, c] ∧ (∀ u, L2.RelV c u → u = cv) ∧ PySem.W.kitOne X.K (.ref D) cv = some b ∧ (∀ dd, d = some dd → ∃ vs, H dd = some (.xd vs)) ∧ Q (.bl b) H) := by
  intro pins s σ H xs us Q I r h
  obtain ⟨c, cv, b, rfl, hcv, e, hd, q⟩ := h
  cases r with
  | cons rx rr =>
    cases rr with
    | cons rt rr =>
      cases rr
      cases rx
      have ec := hcv _ rt
      subst ec
      obtain ⟨hget, _⟩ := I.pin (a, oe) (List.mem_append.mpr (.inl List.mem_cons_self))
      obtain ⟨vs, hv⟩ := hf
      have J : ∃ od, PySem.W.InstAt s.heap a oe D od := by
        cases d with
        | none =>
          refine ⟨none, ?_⟩
          obtain ⟨oc, od, oda, osl⟩ := oe
          obtain ⟨h1, h2⟩ := hz
          dsimp only at h1 h2 hv
          subst h1 h2 hv
          exact ⟨hget, rfl, rfl, trivial⟩
        | some dd =>
          obtain ⟨xs, hx⟩ := hd dd rfl
          obtain ⟨mA, hns, hr⟩ := (show ObjOk X.prog X.w H s.heap dd (.xd xs) from I.hok dd _ hx)
          obtain ⟨od, ho, hl⟩ := lookIn_ns hns
          exact ⟨some od, hget, hz.1, by unfold PySem.W.notCls; rw [hv] <;> rfl, by rw [hz.2]; exact ho⟩
      obtain ⟨od, J⟩ := J
      exact PySem.W.kia_one (PySem.W.kitx_exc C.cl C.hg C.hk C.hs C.ha C.hn C.ht C.hm) I.kIn J e (fun z => nomatch z) fun tk => ⟨.bl b, H, I.kept (t' := tk) fun _ _ z => z, rfl, q⟩
section
variable {X : Cx} {a D : Addr} {oe : Obj} {pn : List (Addr × Obj)} {e : ExcD} {cls : Value} {i : Nat} {n : Str} {b : Bool} {pos p p1 p2 : Pos} {ex : Expr} {cv : Value} {c : V}
/-- isinstance(e, C): C's value is cv -/
theorem dpe_isE (hD : cls = .ref D) (C : ExK X.K D) (hz : Zc cls e.at_ oe) (hf : ∃ vs, oe.data = .fields vs) (hk : PySem.W.kitOne X.K (.ref D) cv = some b) (hcv : ∀ u, L2.RelV c u → u = cv) (hcl : PE (X.suite a ((a, oe) :: pn)) ex (tC c)) (hN : X.N[i]? = some n) (hv : Vis X.env.scope n)
    (hg : Gl X "isinstance") (hm : X.mg "isinstance" = none) (hd : (n == ("__debug__" : Str)) = false := by decide) (hcd : (n == ("__classdict__" : Str)) = false := by decide)
    (he : starEach [.Name n p1, ex] X.env = (false, eval (.Name n p1) X.env) :: starEach [ex] X.env := by rfl) (hpl : (backTo pos (starEach [ex] X.env)).any (·.1) = false := by rfl) (he2 : starEach [ex] X.env = (false, eval ex X.env) :: starEach [] X.env := by rfl) :
    PEd (X.suite a ((a, oe) :: pn)) (fun _ _ _ _ => False) (.Call (.Name "isinstance" p) [.Name n p1, ex] [] pos) (wIsE i e a b) := by
  subst hD
  refine PE.imp (pe_callB (X := X.suite a ((a, oe) :: pn)) (isE_call C hz hf) hg hm (by decide +kernel) (pa_cons (pe_var (X := X.suite a ((a, oe) :: pn)) (i := i) hN hv hd hcd) (pa_cons hcl pa_nil he2) he) (by decide) (by decide) he hpl) fun σ H Q ⟨σD, S, F, QD, ED, sl, m, ⟨h1, h2, h3⟩, k, kx⟩ => ?_
  obtain ⟨v, e1, r⟩ := sl.at_ i _ h1
  cases r
  refine ⟨.ref a, e1, c, cv, b, rfl, hcv, hk, fun dd hdd => ?_, k (.bl b) H (.bl b) S F rfl m (Fm.refl S F H) h3⟩
  unfold xdAt at h2
  rw [hdd] at h2
  dsimp only at h2
  split at h2
  · rename_i fs q
    obtain ⟨vs, g, _⟩ := m.obj _ _ q
    exact ⟨vs, g⟩
  · exact h2.elim
/-- e.f -/
def wXf (i : Nat) (e : ExcD) (a : Addr) (f : Str) : DE := fun σ S Q _ => σ[i]? = some (some (.ref a)) ∧ (match e.at_ with | some dd => (match S dd with | some (.xdo fs) => (match fs.lookup f with | some d => Q d S | none => False) | _ => False) | none => False)
theorem dpe_xf {f : Str} (hD : cls = .ref D) (T : XfC X.K D) (hno : PySem.W.findIn X.K (.ref D) f = some none) (hz : Zc cls e.at_ oe) (hf : ∃ vs, oe.data = .fields vs) (hN : X.N[i]? = some n) (hv : Vis X.env.scope n)
    (hd : (n == ("__debug__" : Str)) = false := by decide) (hcd : (n == ("__classdict__" : Str)) = false := by decide) (hb : attributeBase (.Name n p1) f X.env (eval (.Name n p1) X.env) = eval (.Name n p1) X.env := by rfl) :
    PEd (X.suite a ((a, oe) :: pn)) (fun _ _ _ _ => False) (.Attribute (.Name n p1) f pos) (wXf i e a f) := by
  subst hD
  refine PE.imp (pe_xf (X := X) (n := f) T hno hz hf (pe_var (X := X.suite a ((a, oe) :: pn)) (i := i) hN hv hd hcd) hb) fun σ H Q ⟨σD, S, F, QD, ED, sl, m, ⟨h1, h2⟩, k, kx⟩ => ?_
  obtain ⟨v, e1, r⟩ := sl.at_ i _ h1
  cases r
  refine ⟨.ref a, e1, rfl, rfl, ?_⟩
  split at h2
  · rename_i dd q1
    split at h2
    · rename_i fs q2
      split at h2
      · rename_i d q3
        obtain ⟨vs, g, rf⟩ := m.obj _ _ q2
        obtain ⟨v, l, rv⟩ := pair_look rf q3
        exact ⟨dd, vs, v, q1, g, l, k v H d S F rv m (Fm.refl S F H) h2⟩
      · exact h2.elim
    · exact h2.elim
  · exact h2.elim
end
/-! ### count, index of bools -/
section
variable {X : Cx}
def isBl (k : Bool) : Value → Bool | .bool b => b == k | _ => false
theorem isBl_eq {A : Around} {s : Shared} {k : Bool} : ∀ {bs : List Bool} {us : List Value}, Vals (bs.map V.bl) us → ∀ y ∈ us, SeqAt.EqAt A s y (.bool k) (isBl k y)
  | [], _, .nil, y, hy => by cases hy
  | b :: bs, u :: us, .cons r t, y, hy => by
    rcases List.mem_cons.mp hy with e | hy
    · subst e
      have r' : y = .bool b := r
      subst r'
      exact eqAt_V (y := .bl b) (x := .bl k) (u := .bool b) (v := .bool k) rfl rfl rfl rfl
    · exact isBl_eq t y hy
theorem isBl_count {k : Bool} : ∀ {bs : List Bool} {us : List Value}, Vals (bs.map V.bl) us → us.countP (isBl k) = bs.count k
  | [], _, .nil => rfl
  | b :: bs, u :: us, .cons r t => by
    have r' : u = .bool b := r
    subst r'
    rw [List.countP_cons, List.count_cons, isBl_count t]
    cases b <;> cases k <;> rfl
def rCntB (K : PySem.W.Frag) : V → List V → Hp → VK → Prop := fun x xs H Q => ∃ (p : Addr) (bs : List Bool) (k : Bool), x = .ref p ∧ xs = [.bl k] ∧ SqL K H p (bs.map V.bl) ∧ Q (.int (bs.count k : Nat)) H
theorem mt_countB : MtR X "list.count" (rCntB X.K) := by
  intro pins s σ H x xs v us Q I rx rxs h
  obtain ⟨p, bs, k, rfl, rfl, hs, q⟩ := h
  cases rx
  obtain ⟨u, rfl, ru⟩ := rxs.one
  have ru : u = .bool k := ru
  subst ru
  obtain ⟨its, rv, ⟨⟨cls, dd, data, sl⟩, n, ho, hc, hdn, hd⟩, hlen⟩ := I.list hs
  dsimp only at hc hd
  subst hc hd
  refine call_meets PySem.F.slot_list_count ⟨_, ho, rfl⟩ PySem.F.entry_list_count (PySem.F.args_list_count_2 _ _) (SeqAt.list_countAt p its.toArray n dd sl (.bool k) (isBl k)) ⟨ho, fun y hy => isBl_eq rv y (by simpa using hy), ?_⟩
  refine ⟨.int (bs.count k : Nat), H, I.tok _, ⟨s.toks, ?_⟩, q⟩
  rw [show its.toArray.toList = its by simp, isBl_count rv]
def asBls : List D → Option (List Bool)
  | [] => some []
  | .bl b :: r => (asBls r).map (b :: ·)
  | _ => none
theorem asBls_e : ∀ {ds : List D} {bs : List Bool}, asBls ds = some bs → ds = bs.map D.bl
  | [], bs, h => by cases h; rfl
  | d :: ds, bs, h => by
    cases d with
    | bl b =>
      have h' : (asBls ds).map (b :: ·) = some bs := h
      cases q : asBls ds with
      | none => rw [q] at h'; cases h'
      | some r =>
        rw [q] at h'
        cases h'
        rw [asBls_e q]
        rfl
    | _ => cases h
def dCountB : RM := fun d ds S Q => onL d S fun _ xs => match ds, asBls xs with | [.bl k], some bs => Q (.int (bs.count k : Nat)) S | _, _ => False
theorem lm_countB {K : PySem.W.Frag} : LM K (rCntB K) dCountB := fun x vs H d ds S F QD Q r rs m h k => by
  obtain ⟨a, xs, rfl, e, h'⟩ := onL_e h
  clear h
  cases r
  obtain ⟨us, g, gr⟩ := m.obj _ _ e
  split at h'
  · rename_i kk bs q
    obtain ⟨y, vr, rfl, ry, rfl⟩ := rs
    cases ry
    have ex := asBls_e q
    subst ex
    have eu := Reps.bls gr
    subst eu
    exact ⟨a, bs, kk, rfl, rfl, SqL.of g, k (.int _) H (.int _) S F rfl m (Fm.refl S F H) h'⟩
  · exact h'.elim
def dIndexB : RM := fun d ds S Q => onL d S fun _ xs => match ds, asBls xs with | [.bl k], some bs => (match bs.idxOf? k with | some j => Q (.int (j : Nat)) S | none => False) | _, _ => False
theorem lm_indexB {K : PySem.W.Frag} : LM K (rIndex K) dIndexB := fun x vs H d ds S F QD Q r rs m h k => by
  obtain ⟨a, xs, rfl, e, h'⟩ := onL_e h
  clear h
  cases r
  obtain ⟨us, g, gr⟩ := m.obj _ _ e
  split at h'
  · rename_i kk bs q
    split at h'
    · rename_i j qj
      obtain ⟨y, vr, rfl, ry, rfl⟩ := rs
      cases ry
      have ex := asBls_e q
      subst ex
      have eu := Reps.bls gr
      subst eu
      have hj := List.idxOf?_eq_some_iff.mp qj
      obtain ⟨hl, h1, h2⟩ := hj
      have hb : bs[j]? = some kk := by rw [List.getElem?_eq_getElem hl, h1]
      refine ⟨a, _, .bl kk, j, .bl kk, rfl, rfl, SqL.of g, rfl, List.all_eq_true.mpr (fun y hy => by obtain ⟨b, _, rfl⟩ := List.mem_map.mp hy; rfl), by rw [List.getElem?_map, hb]; rfl, by cases kk <;> rfl, fun m' z hm hz => ?_, k (.int _) H (.int _) S F rfl m (Fm.refl S F H) h'⟩
      rw [List.getElem?_map] at hz
      cases qz : bs[m']? with
      | none => rw [qz] at hz; cases hz
      | some bz =>
        rw [qz] at hz
        cases hz
        obtain ⟨hl2, e2⟩ := List.getElem?_eq_some_iff.mp qz
        have h3 := h2 m' hm
        rw [e2] at h3
        simp only [eqV]
        simpa using h3
    · exact h'.elim
  · exact h'.elim
end
end DL
/-! ## DL15 -/
namespace DL
open PySem PySem.Spec PyProof.Rows L2
/-! ### in, of flat values -/
def flatD : D → Option V
  | .non => some .non | .bl b => some (.bl b) | .int i => some (.int i) | .str s => some (.str s) | _ => none
theorem flatD_e {K : PySem.W.Frag} {H : Hp} {d : D} {v u : V} (e : flatD d = some u) (r : Rep K H d v) : v = u ∧ flatV u = true := by
  cases d <;> first | (cases e; cases r; exact ⟨rfl, rfl⟩) | cases e
def flatDs : List D → Option (List V)
  | [] => some []
  | d :: ds => (match flatD d, flatDs ds with | some v, some vs => some (v :: vs) | _, _ => none)
theorem flatDs_e {K : PySem.W.Frag} {H : Hp} : ∀ {ds : List D} {vs us : List V}, flatDs ds = some us → Reps K H ds vs → vs = us ∧ us.all flatV = true
  | [], _, _, e, r => by cases e; cases r; exact ⟨rfl, rfl⟩
  | d :: ds, _, _, e, ⟨v, vr, e2, r, rr⟩ => by
    subst e2
    unfold flatDs at e
    split at e
    · rename_i u us q1 q2
      cases e
      obtain ⟨h1, h2⟩ := flatD_e q1 r
      obtain ⟨h3, h4⟩ := flatDs_e q2 rr
      rw [h1, h3]
      exact ⟨rfl, by simp [h2, h4]⟩
    · cases e
def dIn (neg : Bool) : RD2 := fun d e S Q => match flatD d, e with
  | some x, .tup ys => (match flatDs ys with | some us => Q (.bl (if neg then !inV x us else inV x us)) S | none => False)
  | some x, .ref a => (match S a with | some (.lst ys) => (match flatDs ys with | some us => Q (.bl (if neg then !inV x us else inV x us)) S | none => False) | _ => False)
  | _, _ => False
theorem lr_in {K : PySem.W.Frag} {neg : Bool} : LR2 K (rIn K neg) (dIn neg) := by
  intro x y H d e S F QD Q rx ry m h k
  unfold dIn at h
  split at h
  · rename_i u ys q
    split at h
    · rename_i us q2
      obtain ⟨a, vs, rfl, t, r⟩ := ry
      obtain ⟨e1, e2⟩ := flatD_e q rx
      obtain ⟨e3, e4⟩ := flatDs_e q2 r
      subst e1 e3
      exact ⟨a, _, rfl, .inr t, e2, e4, k (.bl _) H (.bl _) S F rfl m (Fm.refl S F H) h⟩
    · exact h.elim
  · rename_i u a q
    split at h
    · rename_i ys q3
      split at h
      · rename_i us q2
        obtain ⟨vs, g, r⟩ := m.obj _ _ q3
        cases ry
        obtain ⟨e1, e2⟩ := flatD_e q rx
        obtain ⟨e3, e4⟩ := flatDs_e q2 r
        subst e1 e3
        exact ⟨a, _, rfl, .inl (SqL.of g), e2, e4, k (.bl _) H (.bl _) S F rfl m (Fm.refl S F H) h⟩
      · exact h.elim
    · exact h.elim
  · exact h.elim
theorem op_in_seq' {X : Cx} : OpR X (compareOp .In) (rIn X.K false) := op_in_seq
/-! ### what is left lying is forgotten -/
def Le (S S' : Store) : Prop := ∀ a o, S a = some o → S' a = some o
theorem Le.refl (S : Store) : Le S S := fun _ _ h => h
theorem Le.trans {S S1 S2 : Store} (a : Le S S1) (b : Le S1 S2) : Le S S2 := fun c o h => b c o (a c o h)
theorem Le.sup {S S1 : Store} {p : Addr} {o : MO} (a : Le S S1) (h : S1 p = none) : Le S (sup S1 p o) := fun c u e => by
  have := a c u e
  rw [sup_ne (sne this h)]; exact this
def Dr (Q : DK) : DK := fun d S' => ∃ S, Le S S' ∧ Q d S
def DrX (E : XE) : XE := fun e S' => ∃ S, Le S S' ∧ E e S
theorem Post.dr {K : PySem.W.Frag} {S : Store} {F : Own} {H : Hp} {QD : DK} {Q : VK} (k : Post K S F H QD Q) : Post K S F H (Dr QD) Q := fun v H' d S' F' r m f ⟨S2, l, q⟩ => k v H' d S2 F' r (m.less l) (f.less l) q
theorem PostX.dr {K : PySem.W.Frag} {mg : Str → Option Value} {S : Store} {F : Own} {H : Hp} {ED : XE} {Q : Value → Option Addr → Hp → Prop} (k : PostX K mg S F H ED Q) : PostX K mg S F H (DrX ED) Q := fun cls dd H' e S' F' r m f ⟨S2, l, q⟩ => k cls dd H' e S2 F' r (m.less l) (f.less l) q
theorem Def.calD {P : Program} {w : World} {K : PySem.W.Frag} {mg : Str → Option Value} {base : Heap} {x : Str} {st : Stmt} {N ps : List Str} {k : Nat} {sp : SpD} (G : Def K mg x st ps) (Sc : FnScope N ps (defScope st)) (len : ∀ ds S Q E, sp ds S Q E → ds.length = ps.length)
    (hbody : ∀ (f : Addr) (cdv : Value) (A : Around) (outer : List Env) (s : Shared) (H : Hp) (E : XK), Room k (A.deeper (envOfC x (defScope st) s.heap.objs.size f cdv)) →
      ∃ t, PSsd (cxOf (L2.CX P w) P w K mg base N x (defScope st) f cdv A outer s H E) (fun cls d _ H => E cls d H) (defBody st) t ∧
        ∀ ds S Q ED, sp ds S Q ED → t { nx := fun _ S' => Dr Q .non S', rt := Dr Q, ex := fun e _ S' => DrX ED e S' } (startD N ds) S) : Cal P w K mg base x (k + 1) ps sp :=
  (Def.cal (sp := fun ds S Q E => ∃ Q' E', Q = Dr Q' ∧ E = DrX E' ∧ sp ds S Q' E') G Sc (fun ds S Q E ⟨Q', E', _, _, h⟩ => len ds S Q' E' h) fun f cdv A outer s H E hr => by
    obtain ⟨t, ht, hw⟩ := hbody f cdv A outer s H E hr
    exact ⟨t, ht, fun ds S Q ED ⟨Q', E', e1, e2, h⟩ => by rw [e1, e2]; exact hw ds S Q' E' h⟩).imp fun vs H Q E ⟨ds, S, F, QD, ED, r, m, h, kq, kx⟩ => ⟨ds, S, F, Dr QD, DrX ED, r, m, ⟨QD, ED, rfl, rfl, h⟩, kq.dr, kx.dr⟩
/-! ### the own errors -/
def errNames : List Str := ["BadCount", "BadKey", "BadLogs", "BadNow", "BadRules", "BadSite", "BadText", "BadToken", "BadWants", "BadWorth", "NotYet", "Stale"]
structure ErrK (K : PySem.W.Frag) (mg : Str → Option Value) (errs : List Str) : Prop where
  ex : ∀ nm ∈ errs, ∃ D, mg nm = some (.ref D) ∧ ExK K D ∧ XfC K D ∧ (∀ c ∈ errNames, ∃ A : Addr, mg c = some (.ref A) ∧ PySem.W.kitOne K (.ref D) (.ref A) = some (nm == c)) ∧ PySem.W.kitOne K (.ref D) (.type "ValueError") = some true ∧
    ∀ f ∈ (["site", "row", "lacks", "by"] : List Str), PySem.W.findIn K (.ref D) f = some none
  port : ∃ C : Addr, mg "PortError" = some (.ref C) ∧ ∀ nm ∈ errs, ∀ cls, mg nm = some cls → PySem.W.exmOne K cls (.ref C) = some true
  val : mg "ValueError" = none
  isi : mg "isinstance" = none
def catE (errs : List Str) : Str → Option Bool := fun nm => if nm ∈ errs then some true else none
theorem catE_e {errs : List Str} {nm : Str} {b : Bool} (h : catE errs nm = some b) : nm ∈ errs ∧ b = true := by
  unfold catE at h
  split at h
  · cases h; exact ⟨by assumption, rfl⟩
  · cases h
section
variable {X : Cx} {a : Addr} {oe : Obj} {pn : List (Addr × Obj)} {e : ExcD} {cls : Value} {i : Nat} {n c : Str} {pos p p1 p2 : Pos} {errs : List Str}
theorem dpe_isK (Er : ErrK X.K X.mg errs) (he : catE errs e.name = some true) (hcls : X.mg e.name = some cls) (hz : Zc cls e.at_ oe) (hf : ∃ vs, oe.data = .fields vs) (hc : c ∈ errNames) (hN : X.N[i]? = some n) (hv : Vis X.env.scope n) (hg : Gl X "isinstance") (hgc : Gl X c)
    (hd : (n == ("__debug__" : Str)) = false := by decide) (hcd : (n == ("__classdict__" : Str)) = false := by decide) (hdc : (c == ("__debug__" : Str)) = false := by decide)
    (h1 : starEach [.Name n p1, .Name c p2] X.env = (false, eval (.Name n p1) X.env) :: starEach [.Name c p2] X.env := by rfl) (h2 : (backTo pos (starEach [.Name c p2] X.env)).any (·.1) = false := by rfl) (h3 : starEach [.Name c p2] X.env = (false, eval (.Name c p2) X.env) :: starEach [] X.env := by rfl) :
    PEd (X.suite a ((a, oe) :: pn)) (fun _ _ _ _ => False) (.Call (.Name "isinstance" p) [.Name n p1, .Name c p2] [] pos) (wIsE i e a (e.name == c)) := by
  obtain ⟨D, e1, k1, _, k2, _⟩ := Er.ex _ (catE_e he).1
  rw [e1] at hcls
  cases hcls
  obtain ⟨A, e2, k3⟩ := k2 c hc
  exact dpe_isE rfl k1 hz hf k3 (c := .ref A) (fun u r => r) (pe_glob (X := X.suite a ((a, oe) :: pn)) hgc e2 rfl hdc) hN hv hg Er.isi hd hcd h1 h2 h3
theorem dpe_isV (Er : ErrK X.K X.mg errs) (he : catE errs e.name = some true) (hcls : X.mg e.name = some cls) (hz : Zc cls e.at_ oe) (hf : ∃ vs, oe.data = .fields vs) (hN : X.N[i]? = some n) (hv : Vis X.env.scope n) (hg : Gl X "isinstance") (hgc : Gl X "ValueError")
    (hd : (n == ("__debug__" : Str)) = false := by decide) (hcd : (n == ("__classdict__" : Str)) = false := by decide)
    (h1 : starEach [.Name n p1, .Name "ValueError" p2] X.env = (false, eval (.Name n p1) X.env) :: starEach [.Name "ValueError" p2] X.env := by rfl) (h2 : (backTo pos (starEach [.Name "ValueError" p2] X.env)).any (·.1) = false := by rfl) (h3 : starEach [.Name "ValueError" p2] X.env = (false, eval (.Name "ValueError" p2) X.env) :: starEach [] X.env := by rfl) :
    PEd (X.suite a ((a, oe) :: pn)) (fun _ _ _ _ => False) (.Call (.Name "isinstance" p) [.Name n p1, .Name "ValueError" p2] [] pos) (wIsE i e a true) := by
  obtain ⟨D, e1, k1, _, _, k2, _⟩ := Er.ex _ (catE_e he).1
  rw [e1] at hcls
  cases hcls
  exact dpe_isE rfl k1 hz hf k2 (c := .ty "ValueError") (fun u r => r) (pe_bltn (X := X.suite a ((a, oe) :: pn)) hgc Er.val (by decide +kernel) rfl) hN hv hg Er.isi hd hcd h1 h2 h3
theorem dpe_xK {f : Str} (Er : ErrK X.K X.mg errs) (he : catE errs e.name = some true) (hcls : X.mg e.name = some cls) (hz : Zc cls e.at_ oe) (hf : ∃ vs, oe.data = .fields vs) (hff : f ∈ (["site", "row", "lacks", "by"] : List Str)) (hN : X.N[i]? = some n) (hv : Vis X.env.scope n)
    (hd : (n == ("__debug__" : Str)) = false := by decide) (hcd : (n == ("__classdict__" : Str)) = false := by decide) (hb : attributeBase (.Name n p1) f X.env (eval (.Name n p1) X.env) = eval (.Name n p1) X.env := by rfl) :
    PEd (X.suite a ((a, oe) :: pn)) (fun _ _ _ _ => False) (.Attribute (.Name n p1) f pos) (wXf i e a f) := by
  obtain ⟨D, e1, _, k1, _, _, k2⟩ := Er.ex _ (catE_e he).1
  rw [e1] at hcls
  cases hcls
  exact dpe_xf rfl k1 (k2 f hff) hz hf hN hv hd hcd hb
end
/-! ### what _law_told tells -/
def toldD (e : ExcD) (S : Store) : Option D := match e.at_ with
  | none => if e.name ∈ (["BadLogs", "NotYet", "Stale", "BadText"] : List Str) then none else some (.tup [.str e.name, .int 0])
  | some dd => (match S dd with
    | some (.xdo fs) =>
      if e.name = "BadLogs" then (match fs.lookup ("site" : Str), fs.lookup ("row" : Str) with | some x, some y => some (.tup [.str e.name, x, y]) | _, _ => none)
      else if e.name = "NotYet" then (match fs.lookup ("lacks" : Str) with | some x => some (.tup [.str e.name, x]) | _ => none)
      else if e.name = "Stale" then (match fs.lookup ("by" : Str) with | some x => some (.tup [.str e.name, x]) | _ => none)
      else if e.name = "BadText" then (match fs.lookup ("row" : Str) with | some x => some (.tup [.str e.name, x]) | _ => none)
      else none
    | _ => none)
/-- a sealed lambda, called: what it tells, or the error's word -/
def sp_told (P : Program) (w : World) (K : PySem.W.Frag) (mg : Str → Option Value) (base : Heap) (k : Nat) (errs : List Str) : SpD := fun ds S Q _ => match ds with
  | [.fnS L cells vals] => ∃ S0 wb Q0 E0, LamB P w K mg base k L vals wb ∧ Part S0 S ∧ NoSS S0 ∧ (∀ p ∈ vals, noS p.2 = true) ∧ wb (vals.map fun p => some p.2) S0 Q0 E0 ∧
      (∀ d S', Q0 d S' → Q d (joinS S S0 S')) ∧ ∀ e S', E0 e S' → catE errs e.name = some true ∧ ∃ d, toldD e (joinS S S0 S') = some d ∧ Q d (joinS S S0 S')
  | _ => False
theorem err_bits : ∀ nm ∈ errNames, (errNames.map (nm == ·)).count true = 1 ∧ ∃ j : Nat, (errNames.map (nm == ·)).idxOf? true = some j ∧ errNames[j]? = some nm := by
  intro nm h
  simp only [errNames, List.mem_cons, List.not_mem_nil, or_false] at h
  rcases h with rfl | rfl | rfl | rfl | rfl | rfl | rfl | rfl | rfl | rfl | rfl | rfl
  · exact ⟨by decide +kernel, 0, by decide +kernel, by decide +kernel⟩
  · exact ⟨by decide +kernel, 1, by decide +kernel, by decide +kernel⟩
  · exact ⟨by decide +kernel, 2, by decide +kernel, by decide +kernel⟩
  · exact ⟨by decide +kernel, 3, by decide +kernel, by decide +kernel⟩
  · exact ⟨by decide +kernel, 4, by decide +kernel, by decide +kernel⟩
  · exact ⟨by decide +kernel, 5, by decide +kernel, by decide +kernel⟩
  · exact ⟨by decide +kernel, 6, by decide +kernel, by decide +kernel⟩
  · exact ⟨by decide +kernel, 7, by decide +kernel, by decide +kernel⟩
  · exact ⟨by decide +kernel, 8, by decide +kernel, by decide +kernel⟩
  · exact ⟨by decide +kernel, 9, by decide +kernel, by decide +kernel⟩
  · exact ⟨by decide +kernel, 10, by decide +kernel, by decide +kernel⟩
  · exact ⟨by decide +kernel, 11, by decide +kernel, by decide +kernel⟩
def errD (nm : Str) : List D := (errNames.map (nm == ·)).map D.bl
theorem errD_eq (nm : Str) : errD nm = [.bl (nm == "BadCount"), .bl (nm == "BadKey"), .bl (nm == "BadLogs"), .bl (nm == "BadNow"), .bl (nm == "BadRules"), .bl (nm == "BadSite"), .bl (nm == "BadText"), .bl (nm == "BadToken"), .bl (nm == "BadWants"), .bl (nm == "BadWorth"), .bl (nm == "NotYet"), .bl (nm == "Stale")] := rfl
theorem asBls_map : ∀ bs : List Bool, asBls (bs.map D.bl) = some bs
  | [] => rfl
  | b :: bs => by
    show (asBls (bs.map D.bl)).map (b :: ·) = _
    rw [asBls_map bs]
    rfl
theorem asBls_err (nm : Str) : asBls [.bl (nm == "BadCount"), .bl (nm == "BadKey"), .bl (nm == "BadLogs"), .bl (nm == "BadNow"), .bl (nm == "BadRules"), .bl (nm == "BadSite"), .bl (nm == "BadText"), .bl (nm == "BadToken"), .bl (nm == "BadWants"), .bl (nm == "BadWorth"), .bl (nm == "NotYet"), .bl (nm == "Stale")] = some (errNames.map (nm == ·)) := asBls_map (errNames.map (nm == ·))
theorem atI_err {nm : Str} {j : Nat} (h : errNames[j]? = some nm) : atI [D.str "BadCount", D.str "BadKey", D.str "BadLogs", D.str "BadNow", D.str "BadRules", D.str "BadSite", D.str "BadText", D.str "BadToken", D.str "BadWants", D.str "BadWorth", D.str "NotYet", D.str "Stale"] (j : Int) = some (.str nm) := by
  rw [atI_ofN]
  show (errNames.map D.str)[j]? = _
  rw [List.getElem?_map, h]
  rfl
theorem Le.at_ {S S' : Store} {a : Addr} {o : MO} (l : Le S S') (h : S a = some o) : S' a = some o := l a o h
theorem xdAt.le {e : ExcD} {S S' : Store} (l : Le S S') (h : xdAt e S) : xdAt e S' := by
  unfold xdAt at h ⊢
  split
  · trivial
  · rename_i dd q
    rw [q] at h
    dsimp only at h
    split at h
    · rename_i fs q2
      rw [l.at_ q2]
      trivial
    · exact h.elim
theorem told_mono {P : Program} {w : World} {K : PySem.W.Frag} {mg : Str → Option Value} {base : Heap} {k : Nat} {errs : List Str} {ds : List D} {S : Store} {Q Q' : DK} {E E' : XE} (h : sp_told P w K mg base k errs ds S Q E) (q : ∀ d S', Q d S' → Q' d S') : sp_told P w K mg base k errs ds S Q' E' := by
  unfold sp_told at h ⊢
  split at h
  · obtain ⟨S0, wb, Q0, E0, h1, h2, h3, h4, h5, h6, h7⟩ := h
    refine ⟨S0, wb, Q0, E0, h1, h2, h3, h4, h5, fun d S' z => q _ _ (h6 d S' z), fun e S' z => ?_⟩
    obtain ⟨z1, d, z2, z3⟩ := h7 e S' z
    exact ⟨z1, d, z2, q _ _ z3⟩
  · exact h.elim
/-- all that is told is alike, and nothing is changed -/
def sp_all (P : Program) (w : World) (K : PySem.W.Frag) (mg : Str → Option Value) (base : Heap) (k : Nat) (errs : List Str) (n : Nat) : SpD := fun ds S Q _ => match ds with
  | [.ref a, due] => ∃ ws, S a = some (.lst ws) ∧ (∀ x ∈ ws, sp_told P w K mg base k errs [x] S (fun d S' => S' = S ∧ Alk n S d due) XF) ∧ Q (.bl true) S
  | _ => False
end DL
/-! ## DL16 -/
namespace DL
open PySem PySem.Spec PyProof.Rows L2
/-! ### comprehensions that change nothing -/
section
variable {St : Store → Prop} {g : DG} {t : DT} {e : DE} {σ : DSt} {S : Store} {Q : List D → Store → Prop}
theorem lcW_filter (p : D → Bool) (f : D → D) (hSt : St S) : ∀ {ds acc : List D}, acc.length + ds.length ≤ sizeLine →
    (∀ d ∈ ds, ∀ (Kt : D → Store → Prop) (Z : Store → Prop), (p d = true → Kt (f d) S) → (p d = false → Z S) → g d σ S (fun σ1 S1 => t σ1 S1 (fun b S2 => if b = true then e σ1 S2 Kt XF else Z S2) XF)) →
    Q (acc ++ (ds.filter p).map f) S → lcW St g t e σ ds acc S Q
  | [], acc, _, _, q => ⟨hSt, by simpa using q⟩
  | d :: ds, acc, hl, hs, q => by
    rw [List.length_cons] at hl
    refine ⟨hSt, hs d (by simp) _ _ (fun hp => ⟨by omega, ?_⟩) fun hp => ?_⟩
    · refine lcW_filter p f hSt (by rw [List.length_append, List.length_singleton]; omega) (fun x hx => hs x (by simp [hx])) ?_
      rw [List.filter_cons_of_pos hp] at q
      simpa using q
    · refine lcW_filter p f hSt (by omega) (fun x hx => hs x (by simp [hx])) ?_
      rw [List.filter_cons_of_neg (by simp [hp])] at q
      exact q
theorem lcW_map (f : D → D) (hSt : St S) {ds acc : List D} (hl : acc.length + ds.length ≤ sizeLine) (hs : ∀ d ∈ ds, ∀ (Kt : D → Store → Prop) (Z : Store → Prop), Kt (f d) S → g d σ S (fun σ1 S1 => t σ1 S1 (fun b S2 => if b = true then e σ1 S2 Kt XF else Z S2) XF))
    (q : Q (acc ++ ds.map f) S) : lcW St g t e σ ds acc S Q := lcW_filter (fun _ => true) f hSt hl (fun d hd Kt Z k _ => hs d hd Kt Z (k rfl)) (by rw [List.filter_eq_self.mpr (fun _ _ => rfl)]; exact q)
/-- each element one of those that R allows -/
theorem lcW_rel (R : D → D → Prop) (hSt : St S) : ∀ {ds acc : List D}, acc.length + ds.length ≤ sizeLine → (∀ d ∈ ds, ∀ (Kt : D → Store → Prop) (Z : Store → Prop), (∀ y, R d y → Kt y S) → g d σ S (fun σ1 S1 => t σ1 S1 (fun b S2 => if b = true then e σ1 S2 Kt XF else Z S2) XF)) →
    (∀ ys : List D, ys.length = ds.length → (∀ (i : Nat) (d y : D), ds[i]? = some d → ys[i]? = some y → R d y) → Q (acc ++ ys) S) → lcW St g t e σ ds acc S Q
  | [], acc, _, _, q => ⟨hSt, by simpa using q [] rfl (fun i d y h _ => by simp at h)⟩
  | d :: ds, acc, hl, hs, q => by
    rw [List.length_cons] at hl
    refine ⟨hSt, hs d (by simp) _ _ fun y hy => ⟨by omega, ?_⟩⟩
    refine lcW_rel R hSt (by rw [List.length_append, List.length_singleton]; omega) (fun x hx => hs x (by simp [hx])) fun ys hn hr => ?_
    have := q (y :: ys) (by simp [hn]) fun i a b ha hb => by
      cases i with
      | zero =>
        have e1 : d = a := by simpa using ha
        have e2 : y = b := by simpa using hb
        subst e1 e2
        exact hy
      | succ i => exact hr i a b (by simpa using ha) (by simpa using hb)
    simpa using this
end
theorem dAny_map {β : Type} {xs : List β} {p : β → Bool} {S : Store} {Q : DK} (h : Q (.bl (xs.any p)) S) : dAny (xs.map fun x => .bl (p x)) S Q := ⟨xs.map p, by simp, by rw [List.any_map]; exact h⟩
theorem dAll_map {β : Type} {xs : List β} {p : β → Bool} {S : Store} {Q : DK} (h : Q (.bl (xs.all p)) S) : dAll (xs.map fun x => .bl (p x)) S Q := ⟨xs.map p, by simp, by rw [List.all_map]; exact h⟩
theorem zipD_map {α β : Type} (f : α → D) (k : β → D) (as : List α) (bs : List β) : zipD (as.map f) (bs.map k) = (as.zip bs).map fun p => .tup [f p.1, k p.2] := by
  unfold zipD
  rw [List.zip_map, List.map_map]
  rfl
theorem filter_rng (p : D → Bool) (lo : Int) (n : Nat) : ∃ ns : List Int, (rngD lo n).filter p = ns.map D.int ∧ (ns = [] ↔ ∀ i : Nat, i < n → p (.int (lo + i)) = false) := by
  refine ⟨((List.range n).filter fun i => p (.int (lo + (i : Nat)))).map fun (i : Nat) => lo + i, ?_, ?_⟩
  · unfold rngD
    rw [List.filter_map, List.map_map]
    rfl
  · rw [List.map_eq_nil_iff, List.filter_eq_nil_iff]
    simp
theorem eqvAll_nil (ns : List Int) : PyData.eqvAll (ns.map .int) [] = decide (ns = []) := eqvAll_ints ns []
theorem cutD_to {xs : List D} {k : Int} (h : 0 ≤ k) (hk : k ≤ xs.length) : cutD xs none (some k) = xs.take k.toNat := by
  unfold cutD HT.sIx
  dsimp only
  rw [if_neg (by omega)]
  simp only [Nat.sub_zero, List.drop_zero]
  rw [show min k.toNat xs.length = k.toNat by omega]
theorem cutD_from {xs : List D} {k : Int} (h : 0 ≤ k) (hk : k ≤ xs.length) : cutD xs (some k) none = xs.drop k.toNat := by
  unfold cutD HT.sIx
  dsimp only
  rw [if_neg (by omega), show min k.toNat xs.length = k.toNat by omega]
  rw [List.take_of_length_le (by simp)]
theorem cutD_last {xs : List D} : cutD xs none (some (-1)) = xs.take (xs.length - 1) := by
  unfold cutD HT.sIx
  dsimp only
  rw [if_pos (by omega)]
  simp only [Nat.sub_zero, List.drop_zero]
  congr 1
  omega
/-! ### a statement at a time -/
def Nx (u : DS) (D : DEnds) : DSt → Store → Prop := fun σ S => u D σ S
theorem wSeq_nx {t u : DS} {D : DEnds} {σ : DSt} {S : Store} : wSeq t u D σ S = t { nx := Nx u D, rt := D.rt, ex := D.ex, bk := D.bk, ct := D.ct } σ S := rfl
theorem alk_ref {n : Nat} {S : Store} {a b : Addr} {xs ys : List D} (ea : S a = some (.lst xs)) (eb : S b = some (.lst ys)) (hl : xs.length = ys.length) (hb : xs.length ≤ 1000000000000) (h : ∀ (i : Nat) (f d : D), xs[i]? = some f → ys[i]? = some d → Alk n S f d) : Alk (n + 1) S (.ref a) (.ref b) := by
  unfold Alk
  simp only [ea, eb]
  exact ⟨hl, hb, h⟩
theorem NoSS.sup {S : Store} {p : Addr} {o : MO} (n : NoSS S) (h : noSo o = true) : NoSS (sup S p o) := fun a u e => by
  by_cases z : a = p
  · subst z; rw [sup_same] at e; cases e; exact h
  · rw [sup_ne z] at e; exact n a u e
end DL
/-! ## DL17 -/
namespace DL
open PySem PySem.Spec PyProof.Rows L2 LamX
def freeB (sc scope : Scope) : Bool := scope.names.all fun y => !decide (y.2 = .free) || decide (sc.names.lookup y.1 = some .cell) || decide (sc.names.lookup y.1 = some .free)
theorem dpe_lamS {X : Cx} {W : WX} {params : Arguments} {body : Expr} {scope : Scope} {pos : Pos} {c P : Addr} {q : Str} (TB : TabB X.base X.mg c P) (hcode : X.env.code = .ref c) (hq : X.env.qual ++ "<lambda>" = q) (hf : freeB X.env.scope scope = true)
    (hkd : params.kw_defaults = []) (hd : params.defaults = [] ∨ ∃ i j p, params.defaults = [.Constant (.int i) j p]) : PEd X W (.Lambda params body scope pos) (wLam P ⟨q, params, body, scope⟩ X.env.cells) := by
  subst hq
  refine ⟨fun pins s σ H Q I h => ?_⟩
  refine (dpe_lam (W := W) TB hcode (fun y hy e => ?_) hkd hd).run pins s σ H Q I h
  unfold freeB at hf
  have h1 := List.all_eq_true.mp hf y hy
  simp only [Bool.or_eq_true, Bool.not_eq_true', decide_eq_true_eq, decide_eq_false_iff_not] at h1
  rcases h1 with (z | z) | z
  · exact absurd e z
  · exact I.ok.has _ (.inl z)
  · exact I.ok.has _ (.inr z)
def nmB (N : List Str) (sc : Scope) (names : List (Str × Nat)) : Bool := names.all fun q => decide (N[q.2]? = some q.1) && decide (sc.names.lookup q.1 = some .cell)
theorem nmB_ok {N : List Str} {sc : Scope} {names : List (Str × Nat)} (h : nmB N sc names = true) : ∀ q ∈ names, N[q.2]? = some q.1 ∧ sc.names.lookup q.1 = some .cell := fun q hq => by
  have := List.all_eq_true.mp h q hq
  rwa [Bool.and_eq_true, decide_eq_true_eq, decide_eq_true_eq] at this
def lamFB (scope : Scope) (names : List Str) : Bool := decide (scope.kind = .function) && !scope.isCoroutine && !scope.isGenerator && scope.names.all fun y => !decide (y.2 = .cell) && (!decide (y.2 = .free) || names.contains y.1) && (!decide (y.2 = .local) || !names.contains y.1)
theorem lamF_by {L : LF} {vals : List (Str × D)} (h : lamFB L.scope (vals.map (·.1)) = true) (b0 : L.params.defaults = [] → ∀ cl doc pm cdv ctv, bindArgs (PySem.W.kdv_fn "<lambda>" L.qual L.params (.expr L.body) L.scope cl .none doc pm cdv ctv) ⟨[], []⟩ = pure [])
    (b1 : L.params.defaults.length = 1 → ∃ p, L.scope.names.lookup p = some .local ∧ ∀ cl T doc pm cdv ctv, ∃ k, bindArgs (PySem.W.kdv_fn "<lambda>" L.qual L.params (.expr L.body) L.scope cl (.ref T) doc pm cdv ctv) ⟨[], []⟩ = seqItems? (.ref T) >>= k ∧ ∀ v, k (some #[v]) = pure [(p, v)]) : LamF L vals := by
  unfold lamFB at h
  simp only [Bool.and_eq_true, decide_eq_true_eq, Bool.not_eq_true', Bool.or_eq_true, decide_eq_false_iff_not, List.all_eq_true] at h
  obtain ⟨⟨⟨h1, h2⟩, h3⟩, h4⟩ := h
  refine ⟨h1, h2, h3, fun y hy => (h4 y hy).1.1, fun y hy e => ?_, fun y hl hm => ?_, b0, b1⟩
  · rcases (h4 y hy).1.2 with z | z
    · exact absurd e z
    · exact List.contains_iff_mem.mp z
  · rcases (h4 _ (PySem.mem_of_lookup hl)).2 with z | z
    · exact z rfl
    · rw [List.contains_iff_mem.mpr hm] at z; cases z
/-- a law that holds lambdas: its code object is known -/
theorem law_ok {P : Program} {w : World} {K : PySem.W.Frag} {mg : Str → Option Value} {base : Heap} {x : Str} {st : Stmt} {N ps : List Str} {k : Nat} {sp : SpD} {f : Addr} {dV kV doc pm cdv ct oc : Value} {an od : Option Addr} {osl : Array (Option Value)}
    (lk : K.lookup f = some ⟨oc, od, .func (PySem.W.fnOf x x (defArgs st) (defBody st) (defScope st) dV kV doc pm an cdv ct), osl⟩) (hcd : PySem.W.codeIn K cdv x = true) (Sc : FnScope N ps (defScope st)) (len : ∀ ds S Q E, sp ds S Q E → ds.length = ps.length)
    (hbody : ∀ (A : Around) (outer : List Env) (s : Shared) (H : Hp) (E : XK), Room k (A.deeper (envOfC x (defScope st) s.heap.objs.size f cdv)) →
      ∃ t, PSsd (cxOf (L2.CX P w) P w K mg base N x (defScope st) f cdv A outer s H E) (fun cls d _ H => E cls d H) (defBody st) t ∧
        ∀ ds S Q ED, sp ds S Q ED → t { nx := fun _ S' => Dr Q .non S', rt := Dr Q, ex := fun e _ S' => DrX ED e S' } (startD N ds) S) :
    FnOk P w K mg base (L2.CX P w) (k + 1) f (PySem.W.fnOf x x (defArgs st) (defBody st) (defScope st) dV kV doc pm an cdv ct) ps (upSp K mg sp) := by
  refine fn_of lk hcd Sc (fun vs H Q E ⟨ds, S, F, QD, ED, r, m, h, _⟩ => by rw [← r.length]; exact len ds S QD ED h) fun A outer s H vs Q E hr ⟨ds, S, F, QD, ED, r, m, h, kq, kx⟩ => ?_
  obtain ⟨t, ht, hw⟩ := hbody A outer s H E hr
  have kq := kq.dr
  have kx := kx.dr
  exact ⟨_, ht, startD N ds, S, F, _, SlR.start r, m, hw ds S QD ED h, ⟨fun σ' H' σD' S' F' _ m' f q => kq .non H' .non S' F' rfl m' f q, kq, fun _ _ _ _ _ _ _ _ z => z.elim, fun _ _ _ _ _ _ _ _ z => z.elim, fun cls dd σ' H' e σD' S' F' r' _ m' f q => kx cls dd H' e S' F' r' m' f q⟩⟩
theorem sealD_id {cells : List (Str × Addr)} {vals : List (Str × D)} : ∀ {d : D}, noS d = true → sealD cells vals d = d
  | .fn _ _, h => by cases h
  | .non, _ => rfl
  | .bl _, _ => rfl
  | .int _, _ => rfl
  | .str _, _ => rfl
  | .ref _, _ => rfl
  | .tup _, _ => rfl
  | .fnS _ _ _, _ => rfl
  | .rl _, _ => rfl
theorem sealDs_id {cells : List (Str × Addr)} {vals : List (Str × D)} : ∀ {ds : List D}, noSs ds = true → ds.map (sealD cells vals) = ds
  | [], _ => rfl
  | d :: ds, h => by
    have h' : (noS d && noSs ds) = true := h
    rw [Bool.and_eq_true] at h'
    rw [List.map_cons, sealD_id h'.1, sealDs_id h'.2]
theorem sealO_id {cells : List (Str × Addr)} {vals : List (Str × D)} {o : MO} (h : noSo o = true) : sealO cells vals o = o := by
  cases o with
  | lst ds => exact congrArg MO.lst (sealDs_id h)
  | _ => rfl
theorem sealS_id {cells : List (Str × Addr)} {vals : List (Str × D)} {S : Store} (n : NoSS S) : sealS cells vals S = S := by
  funext a
  unfold sealS
  cases e : S a with
  | none => rfl
  | some o => rw [Option.map_some, sealO_id (n a o e)]
theorem sealS_sup {cells : List (Str × Addr)} {vals : List (Str × D)} {S : Store} {p : Addr} {o : MO} (n : NoSS S) : sealS cells vals (sup S p o) = sup S p (sealO cells vals o) := by
  funext a
  by_cases h : a = p
  · subst h
    unfold sealS
    rw [sup_same, sup_same]
    rfl
  · have e := congrFun (sealS_id (cells := cells) (vals := vals) n) a
    unfold sealS at e ⊢
    rw [sup_ne h, sup_ne h]
    exact e
theorem part_sup {S : Store} {p : Addr} {ws : List D} (hp : S p = none) : Part S (sup S p (.lst ws)) := ⟨fun a o e => by rw [sup_ne (sne e hp)]; exact e, fun a e => by
  by_cases h : a = p
  · subst h; rw [sup_same] at e; cases e
  · rw [sup_ne h] at e; exact e⟩
/-- lambdas that all let out the same error, handed to _law_all -/
theorem seal_bad {P : Program} {w : World} {K : PySem.W.Frag} {mg : Str → Option Value} {base : Heap} {k n : Nat} {errs : List Str} {cells : List (Str × Addr)} {vals : List (Str × D)} {S S0 : Store} {p : Addr} {Ls : List LF} {nm : Str} {Q : DK} (hp : S p = none) (le : Le S0 S) (n0 : NoSS S0) (nv : ∀ q ∈ vals, noS q.2 = true)
    (he : nm ∈ errs) (hn : nm ∉ (["BadLogs", "NotYet", "Stale", "BadText"] : List Str)) (hL : ∀ L ∈ Ls, ∃ wb, LamB P w K mg base k L vals wb ∧ wb (vals.map fun q => some q.2) S0 (fun _ _ => False) (fun e S' => e = ⟨nm, none⟩ ∧ S' = S0)) (q : Q (.bl true) S0) :
    ∃ S1, (∀ a o, S1 a = some o → sup S p (.lst (Ls.map fun L => .fn L cells)) a = some o) ∧ sp_all P w K mg base k errs (n + 2) [sealD cells vals (.ref p), sealD cells vals (.tup [.str nm, .int 0])] (sealS cells vals S1)
      (fun d S' => noS d = true ∧ ∃ S2, (∀ a o, S2 a = some o → S' a = some o) ∧ NoSS S2 ∧ Q d S2) XF := by
  have h0 : S0 p = none := by
    cases e : S0 p with
    | none => rfl
    | some o => rw [le p o e] at hp; cases hp
  refine ⟨sup S0 p (.lst (Ls.map fun L => .fn L cells)), fun a o e => ?_, ?_⟩
  · by_cases h : a = p
    · subst h; rw [sup_same] at e ⊢; exact e
    · rw [sup_ne h] at e ⊢; exact le a o e
  · rw [sealS_sup n0]
    refine ⟨_, sup_same, fun x hx => ?_, rfl, S0, fun a o e => by rw [sup_ne (sne e h0)]; exact e, n0, q⟩
    obtain ⟨y, hy, rfl⟩ := List.mem_map.mp hx
    obtain ⟨L, hL', rfl⟩ := List.mem_map.mp hy
    obtain ⟨wb, lb, hw⟩ := hL L hL'
    rw [show sealD cells vals (.fn L cells) = .fnS L cells vals from if_pos rfl]
    refine ⟨S0, wb, _, _, lb, part_sup h0, n0, nv, hw, fun d S' z => z.elim, fun e S' z => ?_⟩
    obtain ⟨rfl, rfl⟩ := z
    refine ⟨by unfold catE; rw [if_pos he], .tup [.str nm, .int 0], ?_, joinS_same (part_sup h0), ?_⟩
    · unfold toldD
      dsimp only
      rw [if_neg hn]
    · refine ⟨rfl, by simp, fun i f d hf hd => ?_⟩
      rw [hf] at hd
      cases hd
      match i with
      | 0 => cases hf; exact rfl
      | 1 => cases hf; exact rfl
      | i + 2 => simp at hf
theorem noS_ints' (as : List Int) : noSo (.lst (as.map D.int)) = true := by
  show noSs (as.map D.int) = true
  induction as with
  | nil => rfl
  | cons a as ih => simpa [noSs, noS] using ih
/-! ### the beginning -/
theorem mod_none {K : PySem.W.Frag} {H : Hp} : DL.Mod K H (fun _ => none) (fun _ => none) := ⟨(fun a o e => by cases e), (fun l a e => by cases e)⟩
theorem noSS_none : NoSS (fun _ => none) := fun a o e => by cases e
theorem ints_start {K : PySem.W.Frag} {H : Hp} {mg : Str → Option Value} {PT a : Addr} {ns : List Int} {q : Str} {sp : SpD} (hT : H PT = some (.tbl #[])) (hS : SqL K H a (ns.map V.int))
    (h : ∀ d S, isInts d S ns → S PT = some (.tab q) → NoSS S → sp [d] S (fun d' _ => d' = .bl true) XF) : upSp K mg sp [.ref a] H (fun v _ => v = .bl true) (fun _ _ _ => False) := by
  have tb : ObjR K H (fun _ => none) PT (.tab q) := TabS.nil hT
  rcases DL.SqL.split hS with hS | hS
  · have ne : a ≠ PT := fun z => by rw [z, hT] at hS; cases hS
    have m1 : DL.Mod K H (sup (fun _ => none) a (.lst (ns.map D.int))) (fun _ => none) := mod_none.adopt rfl rfl ⟨_, hS, Reps.of_ints ns⟩
    have m2 : DL.Mod K H (sup (sup (fun _ => none) a (.lst (ns.map D.int))) PT (.tab q)) (fun _ => none) := m1.adopt (by rw [sup_ne (Ne.symm ne)]) rfl tb
    refine ⟨[.ref a], _, _, _, XF, Reps.one (d := .ref a) rfl, m2, h (.ref a) _ (.inr ⟨a, rfl, by rw [sup_ne ne, sup_same]⟩) sup_same ((noSS_none.sup (noS_ints' ns)).sup rfl), fun v H' d S' F' r _ _ z => ?_, fun _ _ _ _ _ _ _ _ _ z => z.elim⟩
    subst z
    exact r
  · have m2 : DL.Mod K H (sup (fun _ => none) PT (.tab q)) (fun _ => none) := mod_none.adopt rfl rfl tb
    refine ⟨[.rl (ns.map D.int)], _, _, _, XF, Reps.one (d := .rl (ns.map D.int)) ⟨a, _, rfl, hS, Reps.of_ints ns⟩, m2, h _ _ (.inl rfl) sup_same (noSS_none.sup rfl), fun v H' d S' F' r _ _ z => ?_, fun _ _ _ _ _ _ _ _ _ z => z.elim⟩
    subst z
    exact r
end DL
/-! ## K02T -/
namespace K02
open PySem PySem.Spec PyProof.Rows L2 DL
def top (i : Nat) : Stmt := PySem.Challenge.pw_causalports_k02_tokens.main.body.getD i (.Pass ⟨0, 0, 0, 0⟩)
abbrev s_is_number : Stmt := top 18
abbrev s_is_token : Stmt := top 19
abbrev s_need_token : Stmt := top 20
abbrev s_join : Stmt := top 21
abbrev s_is_within : Stmt := top 22
abbrev s_need_both : Stmt := top 23
abbrev s_joined : Stmt := top 24
abbrev s_compared : Stmt := top 25
abbrev s__law_begun : Stmt := top 27
abbrev s__law_take : Stmt := top 28
abbrev s__law_alike : Stmt := top 29
abbrev s__law_told : Stmt := top 30
abbrev s__law_all : Stmt := top 31
abbrev s__law_within : Stmt := top 32
abbrev s__law_join : Stmt := top 33
abbrev s__law_token : Stmt := top 34
abbrev s__law_odd : Stmt := top 35
abbrev s_law : Stmt := top 36
structure Txt (K : PySem.W.Frag) (mg : Str → Option Value) : Prop where
  b_any : mg "any" = none
  b_bool : mg "bool" = none
  b_int : mg "int" = none
  b_isinstance : mg "isinstance" = none
  b_len : mg "len" = none
  b_list : mg "list" = none
  b_max : mg "max" = none
  b_range : mg "range" = none
  b_str : mg "str" = none
  b_tuple : mg "tuple" = none
  b_zip : mg "zip" = none
  c_LEAST_SITES : Cst K mg "LEAST_SITES" (.int 2)
  c_MOST_PUTS : Cst K mg "MOST_PUTS" (.int 999)
  c_MOST_SITES : Cst K mg "MOST_SITES" (.int 5)
  e_BadToken : Exn K mg "BadToken"
section
variable {P : Program} {w : World} {K : PySem.W.Frag} {mg : Str → Option Value} {base : Heap}
--HINT _law_take | _law_box[0] == [] | x
theorem sc__law_take : FnScope ["_law_box", "_law_many", "_law_number"] ["_law_box", "_law_many"] (defScope s__law_take) := ⟨rfl, rfl, rfl, by decide +kernel, rfl, by decide +kernel, by decide +kernel⟩
theorem okO_take (G : Def K mg "_law_take" s__law_take ["_law_box", "_law_many"]) (T : Txt K mg) : Cal P w K mg base "_law_take" 1 ["_law_box", "_law_many"] sp_takeO := by
  refine G.cal sc__law_take (fun ds S Q E h => ?_) fun f cdv A outer s H E hr => ⟨_, (dpss_cons (dps_if (dpt_eqVL (hr.units) (dpe_ix (dv 0) dpe_int (fun _ _ => rfl)) (dpl_lst dpa_nil) (nomark _)) (dpss_cons (dps_asg (dpe_op op_mod lr_intC (dpe_op op_mul lr_intC (dpe_ix (dv 0) dpe_int (fun _ _ => rfl)) dpe_int) dpe_int) (dpg_sub (vv := []) (dv 0) dpe_int))
    (dpss_one (dps_ret (dpe_op op_mod lr_intC (dpe_op op_fdivW lr_intC (dpe_ix (dv 0) dpe_int (fun _ _ => rfl)) dpe_int) (dv 1))))) dpss_nil)
    (dpss_cons (dps_set (i := 2) sc__law_take.nd rfl (by first | exact Or.inl rfl | exact Or.inr rfl) (dpe_ix (dpe_ix (dv 0) dpe_int (fun _ _ => rfl)) dpe_int (fun _ _ => rfl)))
    (dpss_cons (dps_asg (dpe_op op_fdivW lr_intC (dv 2) (dv 1)) (dpg_sub (vv := []) (dpe_ix (dv 0) dpe_int (fun _ _ => rfl)) dpe_int))
    (dpss_cons (dps_if (dpw_pt (dpw_or (dpt_cmp op_eq lr_eqS (dpe_ix (dpe_ix (dv 0) dpe_int (fun _ _ => rfl)) dpe_int (fun _ _ => rfl)) dpe_int (nomark _)) (dpw_or1 (dpt_cmp op_eq lr_eqS (dpe_ix (dpe_ix (dv 0) dpe_int (fun _ _ => rfl)) dpe_int (fun _ _ => rfl)) (dpe_un un_neg lr_neg dpe_int) (nomark _))))) (dpss_one (dps_expr (dpe_bm PySem.F.plainAttrs_list PySem.F.slot_list_pop PySem.F.type_list_pop mt_popAt lm_popAt ty_list (dpe_ix (dv 0) dpe_int (fun _ _ => rfl)) (dpa_cons dpe_int dpa_nil)))) dpss_nil)
    (dpss_one (dps_ret (dpe_op op_mod lr_intC (dv 2) (dv 1)))))))), ?_⟩
  · unfold sp_takeO at h; split at h <;> first | rfl | exact h.elim
  · intro ds S Q ED h
    unfold sp_takeO at h
    split at h
    · rename_i b many
      obtain ⟨l, z, ns, e1, e2, ne, z0, z1, hl, m0, ml, h⟩ := h
      simp only [wSeq, wSlT, wNo, wPart, dSlT, dCat, dListT, wFor, iR1, iR2, iTp, iLs, iNw, iLn, wNext, wIf, wRet, wRetN, wDrop, wAsg, gNm, wPar, wVar, wC, wOp, wUn, wTst, wChain, wAnd, wOr, wNot, wAndV, wOrV, wNotV, wIfE, wNil, wCons, wTup, wLst, wNew, wDer, wVL, wVLL, wALL, wCall, wIsa, wRaise, isB, dI0, dI, dU, dLen, dIx, gSubD, setD, wBM, isL, onL, dPopAt, dAppend, wIxV, wEqVL, wEqL, dEqS, dNeS, startD, List.map_cons, List.map_nil, List.length_cons, List.length_nil, List.cons_append, List.nil_append, List.replicate_succ, List.replicate_zero, List.getElem?_cons_zero, List.getElem?_cons_succ, List.set_cons_zero, List.set_cons_succ, Nat.reduceAdd, Nat.reduceSub, Nat.sub_self, kindD, dIsN, dNotN, isaB, String.reduceBEq, Bool.or_false, Bool.false_or, Bool.true_or, Bool.or_true, Bool.and_true, Bool.and_false, Bool.true_and, Bool.false_and, decide_true, decide_false, DL.isNon, if_true, if_false, Bool.not_true, Bool.not_false, Bool.false_eq_true, reduceIte, true_and, and_true, e1, atI0, atI1, ixN1, sup_sup]
      rw [e2]
      refine ⟨by decide, .list (ns.map .int), [], ⟨l, _, rfl, e2, pyrs_ints⟩, rfl, shaped_li _, shaped_li [], ?_⟩
      have em : ((PyData.list (ns.map .int)).eqv (.list [])) = decide (ns = []) := by
        simp only [PyData.eqv]
        exact eqvAll_ints ns []
      rw [em]
      cases ns with
      | nil =>
        simp only [wSeq, wSlT, wNo, wPart, dSlT, dCat, dListT, wFor, iR1, iR2, iTp, iLs, iNw, iLn, wNext, wIf, wRet, wRetN, wDrop, wAsg, gNm, wPar, wVar, wC, wOp, wUn, wTst, wChain, wAnd, wOr, wNot, wAndV, wOrV, wNotV, wIfE, wNil, wCons, wTup, wLst, wNew, wDer, wVL, wVLL, wALL, wCall, wIsa, wRaise, isB, dI0, dI, dU, dLen, dIx, gSubD, setD, wBM, isL, onL, dPopAt, dAppend, wIxV, wEqVL, wEqL, dEqS, dNeS, startD, List.map_cons, List.map_nil, List.length_cons, List.length_nil, List.cons_append, List.nil_append, List.replicate_succ, List.replicate_zero, List.getElem?_cons_zero, List.getElem?_cons_succ, List.set_cons_zero, List.set_cons_succ, Nat.reduceAdd, Nat.reduceSub, Nat.sub_self, kindD, dIsN, dNotN, isaB, String.reduceBEq, Bool.or_false, Bool.false_or, Bool.true_or, Bool.or_true, Bool.and_true, Bool.and_false, Bool.true_and, Bool.false_and, decide_true, decide_false, DL.isNon, if_true, if_false, Bool.not_true, Bool.not_false, Bool.false_eq_true, reduceIte, true_and, and_true, sup_same, atI1, decide_true]
        refine ⟨.inr (by decide), by decide, ⟨by decide, by decide⟩, m0, ?_⟩
        have q := h (z * 48271 % 2147483647 / 7 % many) (z * 48271 % 2147483647) [] (Int.emod_nonneg _ (by omega)) (Int.emod_lt_of_pos _ m0) (by omega) (by omega) (by decide)
        rw [List.map_nil] at q e2
        rwa [sup_self (show sup S b _ l = _ by rw [sup_ne (fun z => ne z.symm)]; exact e2)] at q
      | cons n r =>
        have e3 : ∀ o, sup S l o b = some (.lst [.ref l, .int z]) := fun o => by rw [sup_ne ne]; exact e1
        have en : decide (n :: r = []) = false := by simp
        rw [en]
        simp only [wSeq, wSlT, wNo, wPart, dSlT, dCat, dListT, wFor, iR1, iR2, iTp, iLs, iNw, iLn, wNext, wIf, wRet, wRetN, wDrop, wAsg, gNm, wPar, wVar, wC, wOp, wUn, wTst, wChain, wAnd, wOr, wNot, wAndV, wOrV, wNotV, wIfE, wNil, wCons, wTup, wLst, wNew, wDer, wVL, wVLL, wALL, wCall, wIsa, wRaise, isB, dI0, dI, dU, dLen, dIx, gSubD, setD, wBM, isL, onL, dPopAt, dAppend, wIxV, wEqVL, wEqL, dEqS, dNeS, startD, List.map_cons, List.map_nil, List.length_cons, List.length_nil, List.cons_append, List.nil_append, List.replicate_succ, List.replicate_zero, List.getElem?_cons_zero, List.getElem?_cons_succ, List.set_cons_zero, List.set_cons_succ, Nat.reduceAdd, Nat.reduceSub, Nat.sub_self, kindD, dIsN, dNotN, isaB, String.reduceBEq, Bool.or_false, Bool.false_or, Bool.true_or, Bool.or_true, Bool.and_true, Bool.and_false, Bool.true_and, Bool.false_and, decide_true, decide_false, DL.isNon, if_true, if_false, Bool.not_true, Bool.not_false, Bool.false_eq_true, reduceIte, true_and, and_true, sup_same, sup_sup, atI0, atI1, ixN0, e3, seqIndex0, List.eraseIdx_cons_zero]
        refine ⟨⟨m0, ml⟩, ?_⟩
        have fin : ∀ ns' : List Int, ns'.length ≤ 63 → Q (.int (n % many)) (sup S l (.lst (ns'.map D.int))) := fun ns' hn => by
          have q := h (n % many) z ns' (Int.emod_nonneg _ (by omega)) (Int.emod_lt_of_pos _ m0) z0 z1 hn
          rwa [sup_self e1] at q
        have f1 := fin r (by simp at hl; omega)
        have f2 := fin (n / many :: r) (by simpa using hl)
        split
        · exact ⟨by decide, m0, f1⟩
        · split
          · exact ⟨by decide, m0, f1⟩
          · exact ⟨m0, f2⟩
    · exact h.elim
theorem ok_take (G : Def K mg "_law_take" s__law_take ["_law_box", "_law_many"]) (T : Txt K mg) : Cal P w K mg base "_law_take" 1 ["_law_box", "_law_many"] sp_take := take_close (okO_take G T)
--HINT _law_begun | _law_script | any
theorem sc__law_begun : FnScope ["_law_script", "_law_stirred", "_law_cell"] ["_law_script"] (defScope s__law_begun) := ⟨rfl, rfl, rfl, by decide +kernel, rfl, by decide +kernel, by decide +kernel⟩
theorem okO_begun (G : Def K mg "_law_begun" s__law_begun ["_law_script"]) (T : Txt K mg) : Cal P w K mg base "_law_begun" 1 ["_law_script"] sp_begunO := by
  refine G.cal sc__law_begun (fun ds S Q E h => ?_) fun f cdv A outer s H E hr => ⟨_, (dpss_cons (dps_set (i := 1) sc__law_begun.nd rfl (by first | exact Or.inl rfl | exact Or.inr rfl) dpe_int)
    (dpss_cons (dps_for (passes_of rfl) rfl (dpi_ln (dv 0)) (dpg_name (vs := [2]) (i := 2) sc__law_begun.nd rfl (by first | exact Or.inl rfl | exact Or.inr rfl) (by decide)) (dpss_one (dps_set (i := 1) sc__law_begun.nd rfl (by first | exact Or.inl rfl | exact Or.inr rfl) (dpe_op op_mod lr_intC (dpe_op op_add lr_int (dpe_op op_add lr_int (dpe_op op_mul lr_intC (dv 1) dpe_int) (dpe_op op_mul lr_intC (dv 2) dpe_int)) dpe_int) dpe_int))))
    (dpss_one (dps_ret (dpe_new (dpl_lst (dpa_cons (dpe_new (dpl_list rfl T.b_list bb_list (dpa_cons (dv 0) dpa_nil))) (dpa_cons (dpe_op op_mul lr_intC (dv 1) (dpe_ta call_int1 lc_int rfl T.b_int bb_int (dpa_cons (dpe_cmp op_gt lr_cmp (dpe_ba call_len lc_len rfl T.b_len bb_len (dpa_cons (dv 0) dpa_nil)) dpe_int (nomark _)) dpa_nil))) dpa_nil)))))))), ?_⟩
  · unfold sp_begunO at h; split at h <;> first | rfl | exact h.elim
  · intro ds S Q ED h
    unfold sp_begunO at h
    split at h
    · rename_i d
      obtain ⟨ns, hi, hn, h⟩ := h
      have bnd : ∀ (s : Int) (b : Bool), 0 ≤ s → s < 2147483647 → 0 ≤ s * (if b = true then 1 else 0) ∧ s * (if b = true then 1 else 0) < 2147483647 := fun s b h0 h1 => by cases b <;> simp <;> omega
      rcases hi with rfl | ⟨a, rfl, ea⟩
      · simp only [wSeq, wSlT, wNo, wPart, dSlT, dCat, dListT, wFor, iR1, iR2, iTp, iLs, iNw, iLn, wNext, wIf, wRet, wRetN, wDrop, wAsg, gNm, wPar, wVar, wC, wOp, wUn, wTst, wChain, wAnd, wOr, wNot, wAndV, wOrV, wNotV, wIfE, wNil, wCons, wTup, wLst, wNew, wDer, wVL, wVLL, wALL, wCall, wIsa, wRaise, isB, dI0, dI, dU, dLen, dIx, gSubD, setD, wBM, isL, onL, dPopAt, dAppend, wIxV, wEqVL, wEqL, dEqS, dNeS, startD, List.map_cons, List.map_nil, List.length_cons, List.length_nil, List.cons_append, List.nil_append, List.replicate_succ, List.replicate_zero, List.getElem?_cons_zero, List.getElem?_cons_succ, List.set_cons_zero, List.set_cons_succ, Nat.reduceAdd, Nat.reduceSub, Nat.sub_self, kindD, dIsN, dNotN, isaB, String.reduceBEq, Bool.or_false, Bool.false_or, Bool.true_or, Bool.or_true, Bool.and_true, Bool.and_false, Bool.true_and, Bool.false_and, decide_true, decide_false, DL.isNon, if_true, if_false, Bool.not_true, Bool.not_false, Bool.false_eq_true, reduceIte, true_and, and_true, wFor, iLn]
        refine forW_ind (fun ds σ S' => ∃ (ms : List Int) (s : Int) (c : Option D), ds = ms.map D.int ∧ σ = [some (.rl (ns.map D.int)), some (.int s), c] ∧ S' = S ∧ 0 ≤ s ∧ s < 2147483647) ?_ ?_ ⟨ns, 0, none, rfl, rfl, rfl, by decide, by decide⟩
        · rintro σ S' ⟨ms, s, c, -, rfl, rfl, h0, h1⟩
          simp only [wSeq, wSlT, wNo, wPart, dSlT, dCat, dListT, wFor, iR1, iR2, iTp, iLs, iNw, iLn, wNext, wIf, wRet, wRetN, wDrop, wAsg, gNm, wPar, wVar, wC, wOp, wUn, wTst, wChain, wAnd, wOr, wNot, wAndV, wOrV, wNotV, wIfE, wNil, wCons, wTup, wLst, wNew, wDer, wVL, wVLL, wALL, wCall, wIsa, wRaise, isB, dI0, dI, dU, dLen, dIx, gSubD, setD, wBM, isL, onL, dPopAt, dAppend, wIxV, wEqVL, wEqL, dEqS, dNeS, startD, List.map_cons, List.map_nil, List.length_cons, List.length_nil, List.cons_append, List.nil_append, List.replicate_succ, List.replicate_zero, List.getElem?_cons_zero, List.getElem?_cons_succ, List.set_cons_zero, List.set_cons_succ, Nat.reduceAdd, Nat.reduceSub, Nat.sub_self, kindD, dIsN, dNotN, isaB, String.reduceBEq, Bool.or_false, Bool.false_or, Bool.true_or, Bool.or_true, Bool.and_true, Bool.and_false, Bool.true_and, Bool.false_and, decide_true, decide_false, DL.isNon, if_true, if_false, Bool.not_true, Bool.not_false, Bool.false_eq_true, reduceIte, true_and, and_true, dListT, dIntOf]
          intro l hl
          refine ⟨.inr (by split <;> decide), by decide, fun b hb => ?_⟩
          obtain ⟨g0, g1⟩ := bnd s (decide (2 < ((ns.map D.int).length : Int))) h0 h1
          exact h l b _ hl hb g0 g1
        · rintro d ds σ S' ⟨ms, s, c, e, rfl, rfl, h0, h1⟩ nx
          cases ms with
          | nil => cases e
          | cons m ms =>
            cases e
            simp only [wSeq, wSlT, wNo, wPart, dSlT, dCat, dListT, wFor, iR1, iR2, iTp, iLs, iNw, iLn, wNext, wIf, wRet, wRetN, wDrop, wAsg, gNm, wPar, wVar, wC, wOp, wUn, wTst, wChain, wAnd, wOr, wNot, wAndV, wOrV, wNotV, wIfE, wNil, wCons, wTup, wLst, wNew, wDer, wVL, wVLL, wALL, wCall, wIsa, wRaise, isB, dI0, dI, dU, dLen, dIx, gSubD, setD, wBM, isL, onL, dPopAt, dAppend, wIxV, wEqVL, wEqL, dEqS, dNeS, startD, List.map_cons, List.map_nil, List.length_cons, List.length_nil, List.cons_append, List.nil_append, List.replicate_succ, List.replicate_zero, List.getElem?_cons_zero, List.getElem?_cons_succ, List.set_cons_zero, List.set_cons_succ, Nat.reduceAdd, Nat.reduceSub, Nat.sub_self, kindD, dIsN, dNotN, isaB, String.reduceBEq, Bool.or_false, Bool.false_or, Bool.true_or, Bool.or_true, Bool.and_true, Bool.and_false, Bool.true_and, Bool.false_and, decide_true, decide_false, DL.isNon, if_true, if_false, Bool.not_true, Bool.not_false, Bool.false_eq_true, reduceIte, true_and, and_true]
            exact ⟨.inr (by decide), .inr (by decide), by decide, nx _ _ ⟨ms, _, _, rfl, rfl, rfl, Int.emod_nonneg _ (by decide), Int.emod_lt_of_pos _ (by decide)⟩⟩
      · simp only [wSeq, wSlT, wNo, wPart, dSlT, dCat, dListT, wFor, iR1, iR2, iTp, iLs, iNw, iLn, wNext, wIf, wRet, wRetN, wDrop, wAsg, gNm, wPar, wVar, wC, wOp, wUn, wTst, wChain, wAnd, wOr, wNot, wAndV, wOrV, wNotV, wIfE, wNil, wCons, wTup, wLst, wNew, wDer, wVL, wVLL, wALL, wCall, wIsa, wRaise, isB, dI0, dI, dU, dLen, dIx, gSubD, setD, wBM, isL, onL, dPopAt, dAppend, wIxV, wEqVL, wEqL, dEqS, dNeS, startD, List.map_cons, List.map_nil, List.length_cons, List.length_nil, List.cons_append, List.nil_append, List.replicate_succ, List.replicate_zero, List.getElem?_cons_zero, List.getElem?_cons_succ, List.set_cons_zero, List.set_cons_succ, Nat.reduceAdd, Nat.reduceSub, Nat.sub_self, kindD, dIsN, dNotN, isaB, String.reduceBEq, Bool.or_false, Bool.false_or, Bool.true_or, Bool.or_true, Bool.and_true, Bool.and_false, Bool.true_and, Bool.false_and, decide_true, decide_false, DL.isNon, if_true, if_false, Bool.not_true, Bool.not_false, Bool.false_eq_true, reduceIte, true_and, and_true, wFor, iLn, ea]
        refine forW_ind (fun ds σ S' => ∃ (ms : List Int) (s : Int) (c : Option D), ds = ms.map D.int ∧ σ = [some (.ref a), some (.int s), c] ∧ S' = S ∧ 0 ≤ s ∧ s < 2147483647) ?_ ?_ ⟨ns, 0, none, rfl, rfl, rfl, by decide, by decide⟩
        · rintro σ S' ⟨ms, s, c, -, rfl, rfl, h0, h1⟩
          simp only [wSeq, wSlT, wNo, wPart, dSlT, dCat, dListT, wFor, iR1, iR2, iTp, iLs, iNw, iLn, wNext, wIf, wRet, wRetN, wDrop, wAsg, gNm, wPar, wVar, wC, wOp, wUn, wTst, wChain, wAnd, wOr, wNot, wAndV, wOrV, wNotV, wIfE, wNil, wCons, wTup, wLst, wNew, wDer, wVL, wVLL, wALL, wCall, wIsa, wRaise, isB, dI0, dI, dU, dLen, dIx, gSubD, setD, wBM, isL, onL, dPopAt, dAppend, wIxV, wEqVL, wEqL, dEqS, dNeS, startD, List.map_cons, List.map_nil, List.length_cons, List.length_nil, List.cons_append, List.nil_append, List.replicate_succ, List.replicate_zero, List.getElem?_cons_zero, List.getElem?_cons_succ, List.set_cons_zero, List.set_cons_succ, Nat.reduceAdd, Nat.reduceSub, Nat.sub_self, kindD, dIsN, dNotN, isaB, String.reduceBEq, Bool.or_false, Bool.false_or, Bool.true_or, Bool.or_true, Bool.and_true, Bool.and_false, Bool.true_and, Bool.false_and, decide_true, decide_false, DL.isNon, if_true, if_false, Bool.not_true, Bool.not_false, Bool.false_eq_true, reduceIte, true_and, and_true, dListT, dIntOf, ea]
          intro l hl
          rw [sup_ne (sne ea hl), ea]
          simp only [wSeq, wSlT, wNo, wPart, dSlT, dCat, dListT, wFor, iR1, iR2, iTp, iLs, iNw, iLn, wNext, wIf, wRet, wRetN, wDrop, wAsg, gNm, wPar, wVar, wC, wOp, wUn, wTst, wChain, wAnd, wOr, wNot, wAndV, wOrV, wNotV, wIfE, wNil, wCons, wTup, wLst, wNew, wDer, wVL, wVLL, wALL, wCall, wIsa, wRaise, isB, dI0, dI, dU, dLen, dIx, gSubD, setD, wBM, isL, onL, dPopAt, dAppend, wIxV, wEqVL, wEqL, dEqS, dNeS, startD, List.map_cons, List.map_nil, List.length_cons, List.length_nil, List.cons_append, List.nil_append, List.replicate_succ, List.replicate_zero, List.getElem?_cons_zero, List.getElem?_cons_succ, List.set_cons_zero, List.set_cons_succ, Nat.reduceAdd, Nat.reduceSub, Nat.sub_self, kindD, dIsN, dNotN, isaB, String.reduceBEq, Bool.or_false, Bool.false_or, Bool.true_or, Bool.or_true, Bool.and_true, Bool.and_false, Bool.true_and, Bool.false_and, decide_true, decide_false, DL.isNon, if_true, if_false, Bool.not_true, Bool.not_false, Bool.false_eq_true, reduceIte, true_and, and_true, dIntOf]
          refine ⟨.inr (by split <;> decide), by decide, fun b hb => ?_⟩
          obtain ⟨g0, g1⟩ := bnd s (decide (2 < ((ns.map D.int).length : Int))) h0 h1
          exact h l b _ hl hb g0 g1
        · rintro d ds σ S' ⟨ms, s, c, e, rfl, rfl, h0, h1⟩ nx
          cases ms with
          | nil => cases e
          | cons m ms =>
            cases e
            simp only [wSeq, wSlT, wNo, wPart, dSlT, dCat, dListT, wFor, iR1, iR2, iTp, iLs, iNw, iLn, wNext, wIf, wRet, wRetN, wDrop, wAsg, gNm, wPar, wVar, wC, wOp, wUn, wTst, wChain, wAnd, wOr, wNot, wAndV, wOrV, wNotV, wIfE, wNil, wCons, wTup, wLst, wNew, wDer, wVL, wVLL, wALL, wCall, wIsa, wRaise, isB, dI0, dI, dU, dLen, dIx, gSubD, setD, wBM, isL, onL, dPopAt, dAppend, wIxV, wEqVL, wEqL, dEqS, dNeS, startD, List.map_cons, List.map_nil, List.length_cons, List.length_nil, List.cons_append, List.nil_append, List.replicate_succ, List.replicate_zero, List.getElem?_cons_zero, List.getElem?_cons_succ, List.set_cons_zero, List.set_cons_succ, Nat.reduceAdd, Nat.reduceSub, Nat.sub_self, kindD, dIsN, dNotN, isaB, String.reduceBEq, Bool.or_false, Bool.false_or, Bool.true_or, Bool.or_true, Bool.and_true, Bool.and_false, Bool.true_and, Bool.false_and, decide_true, decide_false, DL.isNon, if_true, if_false, Bool.not_true, Bool.not_false, Bool.false_eq_true, reduceIte, true_and, and_true, ea]
            exact ⟨.inr (by decide), .inr (by decide), by decide, nx _ _ ⟨ms, _, _, rfl, rfl, rfl, Int.emod_nonneg _ (by decide), Int.emod_lt_of_pos _ (by decide)⟩⟩
    · exact h.elim
--HINT _law_alike | _law_found == _law_due | scal
--HINT _law_alike | isinstance(_law_due, tuple) != isinstance(_law_found, tuple) | scal
--HINT _law_alike | isinstance(_law_due, list) != isinstance(_law_found, list) | scal
--HINT _law_alike | len(_law_found) != len(_law_due) | scal
theorem sc__law_alike : FnScope ["_law_found", "_law_due", "_law_k"] ["_law_found", "_law_due"] (defScope s__law_alike) := ⟨rfl, rfl, rfl, by decide +kernel, rfl, by decide +kernel, by decide +kernel⟩
theorem ok_alike_step (G : Def K mg "_law_alike" s__law_alike ["_law_found", "_law_due"]) (T : Txt K mg) (n : Nat) (c__law_alike : Cal P w K mg base "_law_alike" n ["_law_found", "_law_due"] (sp_alike n)) : Cal P w K mg base "_law_alike" (n + 1) ["_law_found", "_law_due"] (sp_alike (n + 1)) := by
  refine G.cal sc__law_alike (fun ds S Q E h => ?_) fun f cdv A outer s H E hr => ⟨_, (dpss_cons (dps_if (dpt_cmp op_isN lr_isN (dv 1) dpe_non (nomark _)) (dpss_one (dps_ret (dpe_cmp op_isN lr_isN (dv 0) dpe_non (nomark _)))) dpss_nil)
    (dpss_cons (dps_if (dpt_val (dpe_isa (T := "bool") (by decide) rfl T.b_isinstance bb_isinstance rfl T.b_bool bb_bool (dv 1))) (dpss_one (dps_ret (dpe_and (dpe_isa (T := "bool") (by decide) rfl T.b_isinstance bb_isinstance rfl T.b_bool bb_bool (dv 0)) (dpe_one (dpe_cmp op_eq lr_eqS (dv 0) (dv 1) (nomark _)))))) dpss_nil)
    (dpss_cons (dps_if (dpt_val (dpe_isa (T := "int") (by decide) rfl T.b_isinstance bb_isinstance rfl T.b_int bb_int (dv 1))) (dpss_one (dps_ret (dpe_and (dpe_isa (T := "int") (by decide) rfl T.b_isinstance bb_isinstance rfl T.b_int bb_int (dv 0)) (dpe_and (dpe_not (dpe_isa (T := "bool") (by decide) rfl T.b_isinstance bb_isinstance rfl T.b_bool bb_bool (dv 0))) (dpe_one (dpe_cmp op_eq lr_eqS (dv 0) (dv 1) (nomark _))))))) dpss_nil)
    (dpss_cons (dps_if (dpt_val (dpe_isa (T := "str") (by decide) rfl T.b_isinstance bb_isinstance rfl T.b_str bb_str (dv 1))) (dpss_one (dps_ret (dpe_and (dpe_isa (T := "str") (by decide) rfl T.b_isinstance bb_isinstance rfl T.b_str bb_str (dv 0)) (dpe_one (dpe_cmp op_eq lr_eqS (dv 0) (dv 1) (nomark _)))))) dpss_nil)
    (dpss_cons (dps_if (dpw_pt (dpw_or (dpt_cmp op_ne lr_neS (dpe_isa (T := "tuple") (by decide) rfl T.b_isinstance bb_isinstance rfl T.b_tuple bb_tuple (dv 1)) (dpe_isa (T := "tuple") (by decide) rfl T.b_isinstance bb_isinstance rfl T.b_tuple bb_tuple (dv 0)) (nomark _)) (dpw_or1 (dpt_cmp op_ne lr_neS (dpe_isa (T := "list") (by decide) rfl T.b_isinstance bb_isinstance rfl T.b_list bb_list (dv 1)) (dpe_isa (T := "list") (by decide) rfl T.b_isinstance bb_isinstance rfl T.b_list bb_list (dv 0)) (nomark _))))) (dpss_one (dps_ret dpe_bl)) dpss_nil)
    (dpss_cons (dps_if (dpt_cmp op_ne lr_neS (dpe_ba call_len lc_len rfl T.b_len bb_len (dpa_cons (dv 0) dpa_nil)) (dpe_ba call_len lc_len rfl T.b_len bb_len (dpa_cons (dv 1) dpa_nil)) (nomark _)) (dpss_one (dps_ret dpe_bl)) dpss_nil)
    (dpss_cons (dps_for (passes_of rfl) rfl (dpi_r1 rfl T.b_range (dpa_cons (dpe_ba call_len lc_len rfl T.b_len bb_len (dpa_cons (dv 1) dpa_nil)) dpa_nil)) (dpg_name (vs := [2]) (i := 2) sc__law_alike.nd rfl (by first | exact Or.inl rfl | exact Or.inr rfl) (by decide)) (dpss_one (dps_if (dpt_not (dpt_val (dpe_cal c__law_alike hr (by first | decide | omega) rfl (takes_of rfl rfl rfl rfl) (dpa_cons (dpe_ix (dv 0) (dv 2) (fun _ _ => rfl)) (dpa_cons (dpe_ix (dv 1) (dv 2) (fun _ _ => rfl)) dpa_nil))))) (dpss_one (dps_ret dpe_bl)) dpss_nil)))
    (dpss_one (dps_ret dpe_bl))))))))), ?_⟩
  · unfold sp_alike at h; split at h <;> first | rfl | exact h.elim
  · intro ds S Q ED h
    unfold sp_alike at h
    split at h
    · rename_i f d
      obtain ⟨ha, h⟩ := h
      cases f <;> cases d <;> first | exact ha.elim | skip
      · simp only [wSeq, wSlT, wNo, wPart, dSlT, dCat, dListT, wFor, iR1, iR2, iTp, iLs, iNw, iLn, wNext, wIf, wRet, wRetN, wDrop, wAsg, gNm, wPar, wVar, wC, wOp, wUn, wTst, wChain, wAnd, wOr, wNot, wAndV, wOrV, wNotV, wIfE, wNil, wCons, wTup, wLst, wNew, wDer, wVL, wVLL, wALL, wCall, wIsa, wRaise, isB, dI0, dI, dU, dLen, dIx, gSubD, setD, wBM, isL, onL, dPopAt, dAppend, wIxV, wEqVL, wEqL, dEqS, dNeS, startD, List.map_cons, List.map_nil, List.length_cons, List.length_nil, List.cons_append, List.nil_append, List.replicate_succ, List.replicate_zero, List.getElem?_cons_zero, List.getElem?_cons_succ, List.set_cons_zero, List.set_cons_succ, Nat.reduceAdd, Nat.reduceSub, Nat.sub_self, kindD, dIsN, dNotN, isaB, String.reduceBEq, Bool.or_false, Bool.false_or, Bool.true_or, Bool.or_true, Bool.and_true, Bool.and_false, Bool.true_and, Bool.false_and, decide_true, decide_false, DL.isNon, if_true, if_false, Bool.not_true, Bool.not_false, Bool.false_eq_true, reduceIte, true_and, and_true]
        exact h
      · unfold Alk at ha
        simp only [wSeq, wSlT, wNo, wPart, dSlT, dCat, dListT, wFor, iR1, iR2, iTp, iLs, iNw, iLn, wNext, wIf, wRet, wRetN, wDrop, wAsg, gNm, wPar, wVar, wC, wOp, wUn, wTst, wChain, wAnd, wOr, wNot, wAndV, wOrV, wNotV, wIfE, wNil, wCons, wTup, wLst, wNew, wDer, wVL, wVLL, wALL, wCall, wIsa, wRaise, isB, dI0, dI, dU, dLen, dIx, gSubD, setD, wBM, isL, onL, dPopAt, dAppend, wIxV, wEqVL, wEqL, dEqS, dNeS, startD, List.map_cons, List.map_nil, List.length_cons, List.length_nil, List.cons_append, List.nil_append, List.replicate_succ, List.replicate_zero, List.getElem?_cons_zero, List.getElem?_cons_succ, List.set_cons_zero, List.set_cons_succ, Nat.reduceAdd, Nat.reduceSub, Nat.sub_self, kindD, dIsN, dNotN, isaB, String.reduceBEq, Bool.or_false, Bool.false_or, Bool.true_or, Bool.or_true, Bool.and_true, Bool.and_false, Bool.true_and, Bool.false_and, decide_true, decide_false, DL.isNon, if_true, if_false, Bool.not_true, Bool.not_false, Bool.false_eq_true, reduceIte, true_and, and_true]
        rw [ha, decide_eq_true rfl]
        exact h
      · unfold Alk at ha
        simp only [wSeq, wSlT, wNo, wPart, dSlT, dCat, dListT, wFor, iR1, iR2, iTp, iLs, iNw, iLn, wNext, wIf, wRet, wRetN, wDrop, wAsg, gNm, wPar, wVar, wC, wOp, wUn, wTst, wChain, wAnd, wOr, wNot, wAndV, wOrV, wNotV, wIfE, wNil, wCons, wTup, wLst, wNew, wDer, wVL, wVLL, wALL, wCall, wIsa, wRaise, isB, dI0, dI, dU, dLen, dIx, gSubD, setD, wBM, isL, onL, dPopAt, dAppend, wIxV, wEqVL, wEqL, dEqS, dNeS, startD, List.map_cons, List.map_nil, List.length_cons, List.length_nil, List.cons_append, List.nil_append, List.replicate_succ, List.replicate_zero, List.getElem?_cons_zero, List.getElem?_cons_succ, List.set_cons_zero, List.set_cons_succ, Nat.reduceAdd, Nat.reduceSub, Nat.sub_self, kindD, dIsN, dNotN, isaB, String.reduceBEq, Bool.or_false, Bool.false_or, Bool.true_or, Bool.or_true, Bool.and_true, Bool.and_false, Bool.true_and, Bool.false_and, decide_true, decide_false, DL.isNon, if_true, if_false, Bool.not_true, Bool.not_false, Bool.false_eq_true, reduceIte, true_and, and_true]
        rw [ha, decide_eq_true rfl]
        exact h
      · unfold Alk at ha
        simp only [wSeq, wSlT, wNo, wPart, dSlT, dCat, dListT, wFor, iR1, iR2, iTp, iLs, iNw, iLn, wNext, wIf, wRet, wRetN, wDrop, wAsg, gNm, wPar, wVar, wC, wOp, wUn, wTst, wChain, wAnd, wOr, wNot, wAndV, wOrV, wNotV, wIfE, wNil, wCons, wTup, wLst, wNew, wDer, wVL, wVLL, wALL, wCall, wIsa, wRaise, isB, dI0, dI, dU, dLen, dIx, gSubD, setD, wBM, isL, onL, dPopAt, dAppend, wIxV, wEqVL, wEqL, dEqS, dNeS, startD, List.map_cons, List.map_nil, List.length_cons, List.length_nil, List.cons_append, List.nil_append, List.replicate_succ, List.replicate_zero, List.getElem?_cons_zero, List.getElem?_cons_succ, List.set_cons_zero, List.set_cons_succ, Nat.reduceAdd, Nat.reduceSub, Nat.sub_self, kindD, dIsN, dNotN, isaB, String.reduceBEq, Bool.or_false, Bool.false_or, Bool.true_or, Bool.or_true, Bool.and_true, Bool.and_false, Bool.true_and, Bool.false_and, decide_true, decide_false, DL.isNon, if_true, if_false, Bool.not_true, Bool.not_false, Bool.false_eq_true, reduceIte, true_and, and_true]
        rw [ha, decide_eq_true rfl]
        exact h
      · rename_i xs ys
        unfold Alk at ha
        obtain ⟨el, bl, ha⟩ := ha
        simp only [wSeq, wSlT, wNo, wPart, dSlT, dCat, dListT, wFor, iR1, iR2, iTp, iLs, iNw, iLn, wNext, wIf, wRet, wRetN, wDrop, wAsg, gNm, wPar, wVar, wC, wOp, wUn, wTst, wChain, wAnd, wOr, wNot, wAndV, wOrV, wNotV, wIfE, wNil, wCons, wTup, wLst, wNew, wDer, wVL, wVLL, wALL, wCall, wIsa, wRaise, isB, dI0, dI, dU, dLen, dIx, gSubD, setD, wBM, isL, onL, dPopAt, dAppend, wIxV, wEqVL, wEqL, dEqS, dNeS, startD, List.map_cons, List.map_nil, List.length_cons, List.length_nil, List.cons_append, List.nil_append, List.replicate_succ, List.replicate_zero, List.getElem?_cons_zero, List.getElem?_cons_succ, List.set_cons_zero, List.set_cons_succ, Nat.reduceAdd, Nat.reduceSub, Nat.sub_self, kindD, dIsN, dNotN, isaB, String.reduceBEq, Bool.or_false, Bool.false_or, Bool.true_or, Bool.or_true, Bool.and_true, Bool.and_false, Bool.true_and, Bool.false_and, decide_true, decide_false, DL.isNon, if_true, if_false, Bool.not_true, Bool.not_false, Bool.false_eq_true, reduceIte, true_and, and_true]
        have e0 : decide ((xs.length : Int) = (ys.length : Int)) = true := decide_eq_true (by omega)
        rw [e0]
        simp only [wSeq, wSlT, wNo, wPart, dSlT, dCat, dListT, wFor, iR1, iR2, iTp, iLs, iNw, iLn, wNext, wIf, wRet, wRetN, wDrop, wAsg, gNm, wPar, wVar, wC, wOp, wUn, wTst, wChain, wAnd, wOr, wNot, wAndV, wOrV, wNotV, wIfE, wNil, wCons, wTup, wLst, wNew, wDer, wVL, wVLL, wALL, wCall, wIsa, wRaise, isB, dI0, dI, dU, dLen, dIx, gSubD, setD, wBM, isL, onL, dPopAt, dAppend, wIxV, wEqVL, wEqL, dEqS, dNeS, startD, List.map_cons, List.map_nil, List.length_cons, List.length_nil, List.cons_append, List.nil_append, List.replicate_succ, List.replicate_zero, List.getElem?_cons_zero, List.getElem?_cons_succ, List.set_cons_zero, List.set_cons_succ, Nat.reduceAdd, Nat.reduceSub, Nat.sub_self, kindD, dIsN, dNotN, isaB, String.reduceBEq, Bool.or_false, Bool.false_or, Bool.true_or, Bool.or_true, Bool.and_true, Bool.and_false, Bool.true_and, Bool.false_and, decide_true, decide_false, DL.isNon, if_true, if_false, Bool.not_true, Bool.not_false, Bool.false_eq_true, reduceIte, true_and, and_true]
        refine ⟨by omega, ?_⟩
        refine forW_ind (fun ds σ S' => ∃ (i m : Nat) (c : Option D), ds = rngD i m ∧ i + m = ys.length ∧ σ = [some (.tup xs), some (.tup ys), c] ∧ S' = S) ?_ ?_ ⟨0, ys.length, none, by simp, by omega, rfl, rfl⟩
        · rintro σ S' ⟨i, m, c, -, -, -, rfl⟩
          exact ⟨True.intro, h⟩
        · rintro d ds σ S' ⟨i, m, c, e, hm, rfl, rfl⟩ nx
          cases m with
          | zero => cases e
          | succ m =>
            rw [rngD_cons] at e
            cases e
            have hi : i < xs.length := by omega
            have hj : i < ys.length := by omega
            simp only [wSeq, wSlT, wNo, wPart, dSlT, dCat, dListT, wFor, iR1, iR2, iTp, iLs, iNw, iLn, wNext, wIf, wRet, wRetN, wDrop, wAsg, gNm, wPar, wVar, wC, wOp, wUn, wTst, wChain, wAnd, wOr, wNot, wAndV, wOrV, wNotV, wIfE, wNil, wCons, wTup, wLst, wNew, wDer, wVL, wVLL, wALL, wCall, wIsa, wRaise, isB, dI0, dI, dU, dLen, dIx, gSubD, setD, wBM, isL, onL, dPopAt, dAppend, wIxV, wEqVL, wEqL, dEqS, dNeS, startD, List.map_cons, List.map_nil, List.length_cons, List.length_nil, List.cons_append, List.nil_append, List.replicate_succ, List.replicate_zero, List.getElem?_cons_zero, List.getElem?_cons_succ, List.set_cons_zero, List.set_cons_succ, Nat.reduceAdd, Nat.reduceSub, Nat.sub_self, kindD, dIsN, dNotN, isaB, String.reduceBEq, Bool.or_false, Bool.false_or, Bool.true_or, Bool.or_true, Bool.and_true, Bool.and_false, Bool.true_and, Bool.false_and, decide_true, decide_false, DL.isNon, if_true, if_false, Bool.not_true, Bool.not_false, Bool.false_eq_true, reduceIte, true_and, and_true]
            rw [atI_ofN, atI_ofN, List.getElem?_eq_getElem hi, List.getElem?_eq_getElem hj]
            exact ⟨ha i _ _ (List.getElem?_eq_getElem hi) (List.getElem?_eq_getElem hj), nx _ _ ⟨i + 1, m, _, by simp, by omega, rfl, rfl⟩⟩
      · rename_i a b
        unfold Alk at ha
        dsimp only at ha
        split at ha
        · rename_i xs ys ea eb
          obtain ⟨el, bl, ha⟩ := ha
          simp only [wSeq, wSlT, wNo, wPart, dSlT, dCat, dListT, wFor, iR1, iR2, iTp, iLs, iNw, iLn, wNext, wIf, wRet, wRetN, wDrop, wAsg, gNm, wPar, wVar, wC, wOp, wUn, wTst, wChain, wAnd, wOr, wNot, wAndV, wOrV, wNotV, wIfE, wNil, wCons, wTup, wLst, wNew, wDer, wVL, wVLL, wALL, wCall, wIsa, wRaise, isB, dI0, dI, dU, dLen, dIx, gSubD, setD, wBM, isL, onL, dPopAt, dAppend, wIxV, wEqVL, wEqL, dEqS, dNeS, startD, List.map_cons, List.map_nil, List.length_cons, List.length_nil, List.cons_append, List.nil_append, List.replicate_succ, List.replicate_zero, List.getElem?_cons_zero, List.getElem?_cons_succ, List.set_cons_zero, List.set_cons_succ, Nat.reduceAdd, Nat.reduceSub, Nat.sub_self, kindD, dIsN, dNotN, isaB, String.reduceBEq, Bool.or_false, Bool.false_or, Bool.true_or, Bool.or_true, Bool.and_true, Bool.and_false, Bool.true_and, Bool.false_and, decide_true, decide_false, DL.isNon, if_true, if_false, Bool.not_true, Bool.not_false, Bool.false_eq_true, reduceIte, true_and, and_true, ea, eb]
          have e0 : decide ((xs.length : Int) = (ys.length : Int)) = true := decide_eq_true (by omega)
          rw [e0]
          simp only [wSeq, wSlT, wNo, wPart, dSlT, dCat, dListT, wFor, iR1, iR2, iTp, iLs, iNw, iLn, wNext, wIf, wRet, wRetN, wDrop, wAsg, gNm, wPar, wVar, wC, wOp, wUn, wTst, wChain, wAnd, wOr, wNot, wAndV, wOrV, wNotV, wIfE, wNil, wCons, wTup, wLst, wNew, wDer, wVL, wVLL, wALL, wCall, wIsa, wRaise, isB, dI0, dI, dU, dLen, dIx, gSubD, setD, wBM, isL, onL, dPopAt, dAppend, wIxV, wEqVL, wEqL, dEqS, dNeS, startD, List.map_cons, List.map_nil, List.length_cons, List.length_nil, List.cons_append, List.nil_append, List.replicate_succ, List.replicate_zero, List.getElem?_cons_zero, List.getElem?_cons_succ, List.set_cons_zero, List.set_cons_succ, Nat.reduceAdd, Nat.reduceSub, Nat.sub_self, kindD, dIsN, dNotN, isaB, String.reduceBEq, Bool.or_false, Bool.false_or, Bool.true_or, Bool.or_true, Bool.and_true, Bool.and_false, Bool.true_and, Bool.false_and, decide_true, decide_false, DL.isNon, if_true, if_false, Bool.not_true, Bool.not_false, Bool.false_eq_true, reduceIte, true_and, and_true, ea, eb]
          refine ⟨by omega, ?_⟩
          refine forW_ind (fun ds σ S' => ∃ (i m : Nat) (c : Option D), ds = rngD i m ∧ i + m = ys.length ∧ σ = [some (.ref a), some (.ref b), c] ∧ S' = S) ?_ ?_ ⟨0, ys.length, none, by simp, by omega, rfl, rfl⟩
          · rintro σ S' ⟨i, m, c, -, -, -, rfl⟩
            exact ⟨True.intro, h⟩
          · rintro d ds σ S' ⟨i, m, c, e, hm, rfl, rfl⟩ nx
            cases m with
            | zero => cases e
            | succ m =>
              rw [rngD_cons] at e
              cases e
              have hi : i < xs.length := by omega
              have hj : i < ys.length := by omega
              simp only [wSeq, wSlT, wNo, wPart, dSlT, dCat, dListT, wFor, iR1, iR2, iTp, iLs, iNw, iLn, wNext, wIf, wRet, wRetN, wDrop, wAsg, gNm, wPar, wVar, wC, wOp, wUn, wTst, wChain, wAnd, wOr, wNot, wAndV, wOrV, wNotV, wIfE, wNil, wCons, wTup, wLst, wNew, wDer, wVL, wVLL, wALL, wCall, wIsa, wRaise, isB, dI0, dI, dU, dLen, dIx, gSubD, setD, wBM, isL, onL, dPopAt, dAppend, wIxV, wEqVL, wEqL, dEqS, dNeS, startD, List.map_cons, List.map_nil, List.length_cons, List.length_nil, List.cons_append, List.nil_append, List.replicate_succ, List.replicate_zero, List.getElem?_cons_zero, List.getElem?_cons_succ, List.set_cons_zero, List.set_cons_succ, Nat.reduceAdd, Nat.reduceSub, Nat.sub_self, kindD, dIsN, dNotN, isaB, String.reduceBEq, Bool.or_false, Bool.false_or, Bool.true_or, Bool.or_true, Bool.and_true, Bool.and_false, Bool.true_and, Bool.false_and, decide_true, decide_false, DL.isNon, if_true, if_false, Bool.not_true, Bool.not_false, Bool.false_eq_true, reduceIte, true_and, and_true, ea, eb]
              rw [atI_ofN, atI_ofN, List.getElem?_eq_getElem hi, List.getElem?_eq_getElem hj]
              exact ⟨ha i _ _ (List.getElem?_eq_getElem hi) (List.getElem?_eq_getElem hj), nx _ _ ⟨i + 1, m, _, by simp, by omega, rfl, rfl⟩⟩
        · exact ha.elim
    · exact h.elim
theorem ok_alike (G : Def K mg "_law_alike" s__law_alike ["_law_found", "_law_due"]) (T : Txt K mg) : ∀ n, Cal P w K mg base "_law_alike" n ["_law_found", "_law_due"] (sp_alike n)
  | 0 => (G.calF 0).impD fun ds S Q E h => by
    unfold sp_alike at h
    split at h
    · exact h.1.elim
    · exact h
  | n + 1 => ok_alike_step G T n (ok_alike G T n)
theorem sc__law_told : FnScope ["_law_work", "e", "_law_kinds", "_law_words", "_law_word"] ["_law_work"] (defScope s__law_told) := ⟨rfl, rfl, rfl, by decide +kernel, rfl, by decide +kernel, by decide +kernel⟩
theorem ok_told (errs : List Str) (hsub : ∀ nm ∈ errs, nm ∈ errNames) (k : Nat) (G : Def K mg "_law_told" s__law_told ["_law_work"]) (T : Txt K mg) (ER : ErrK K mg errs) : Cal P w K mg base "_law_told" (k + 2) ["_law_work"] (sp_told P w K mg base k errs) := by
  obtain ⟨CP, hport, hexm⟩ := ER.port
  have hcat : ∀ nm b cls, catE errs nm = some b → mg nm = some cls → PySem.W.exmOne K cls (.ref CP) = some b := fun nm b cls h1 h2 => by
    obtain ⟨h3, rfl⟩ := catE_e h1
    exact hexm nm h3 cls h2
  refine G.calD sc__law_told (fun ds S Q E h => ?_) fun f cdv A outer s H E hr => ⟨_, (dpss_one (dps_try (i := 1) (cat := catE errs) rfl rfl sc__law_told.nd rfl rfl ⟨rfl, by decide, .inl hport⟩ (takes_of rfl rfl rfl rfl) hcat (fun W1 pn xe tk1 => (dpss_one (dps_ret (dpe_fnE (P := P) (w := w) (K := K) (mg := mg) (base := base) (i := 0) hr tk1 rfl rfl rfl rfl rfl)))) (fun e a oe cls pn he hcls hz hf => (dpss_cons (dps_set (i := 2) sc__law_told.nd rfl (by first | exact Or.inl rfl | exact Or.inr rfl) (dpe_new (dpl_lst (dpa_cons (dpe_isK (i := 1) ER he hcls hz hf (by decide) rfl (.inl rfl) rfl rfl) (dpa_cons (dpe_isK (i := 1) ER he hcls hz hf (by decide) rfl (.inl rfl) rfl rfl) (dpa_cons (dpe_isK (i := 1) ER he hcls hz hf (by decide) rfl (.inl rfl) rfl rfl) (dpa_cons (dpe_isK (i := 1) ER he hcls hz hf (by decide) rfl (.inl rfl) rfl rfl) dpa_nil)))))))
    (dpss_cons (dps_set (i := 2) sc__law_told.nd rfl (by first | exact Or.inl rfl | exact Or.inr rfl) (dpe_new (dpl_catV (dv 2) (dpl_lst (dpa_cons (dpe_isK (i := 1) ER he hcls hz hf (by decide) rfl (.inl rfl) rfl rfl) (dpa_cons (dpe_isK (i := 1) ER he hcls hz hf (by decide) rfl (.inl rfl) rfl rfl) (dpa_cons (dpe_isK (i := 1) ER he hcls hz hf (by decide) rfl (.inl rfl) rfl rfl) dpa_nil)))))))
    (dpss_cons (dps_set (i := 2) sc__law_told.nd rfl (by first | exact Or.inl rfl | exact Or.inr rfl) (dpe_new (dpl_catV (dv 2) (dpl_lst (dpa_cons (dpe_isK (i := 1) ER he hcls hz hf (by decide) rfl (.inl rfl) rfl rfl) (dpa_cons (dpe_isK (i := 1) ER he hcls hz hf (by decide) rfl (.inl rfl) rfl rfl) (dpa_cons (dpe_isK (i := 1) ER he hcls hz hf (by decide) rfl (.inl rfl) rfl rfl) dpa_nil)))))))
    (dpss_cons (dps_set (i := 2) sc__law_told.nd rfl (by first | exact Or.inl rfl | exact Or.inr rfl) (dpe_new (dpl_catV (dv 2) (dpl_lst (dpa_cons (dpe_isK (i := 1) ER he hcls hz hf (by decide) rfl (.inl rfl) rfl rfl) (dpa_cons (dpe_isK (i := 1) ER he hcls hz hf (by decide) rfl (.inl rfl) rfl rfl) dpa_nil))))))
    (dpss_cons (dps_if (dpw_pt (dpw_or (dpt_cmp op_ne lr_neS (dpe_bm PySem.F.plainAttrs_list PySem.F.slot_list_count PySem.F.type_list_count mt_countB lm_countB ty_list (dv 2) (dpa_cons dpe_bl dpa_nil)) dpe_int (nomark _)) (dpw_or1 (dpt_not (dpt_val (dpe_isV (i := 1) ER he hcls hz hf rfl (.inl rfl) rfl rfl)))))) (dpss_one (dps_ret (dpe_tup (dpa_cons dpe_str (dpa_cons dpe_int dpa_nil))))) dpss_nil)
    (dpss_cons (dps_set (i := 3) sc__law_told.nd rfl (by first | exact Or.inl rfl | exact Or.inr rfl) (dpe_new (dpl_lst (dpa_cons dpe_str (dpa_cons dpe_str (dpa_cons dpe_str (dpa_cons dpe_str (dpa_cons dpe_str (dpa_cons dpe_str (dpa_cons dpe_str (dpa_cons dpe_str (dpa_cons dpe_str dpa_nil))))))))))))
    (dpss_cons (dps_set (i := 4) sc__law_told.nd rfl (by first | exact Or.inl rfl | exact Or.inr rfl) (dpe_ixV (dpl_catV (dv 3) (dpl_lst (dpa_cons dpe_str (dpa_cons dpe_str (dpa_cons dpe_str dpa_nil))))) (dpe_bm PySem.F.plainAttrs_list PySem.F.slot_list_index PySem.F.type_list_index mt_index lm_indexB ty_list (dv 2) (dpa_cons dpe_bl dpa_nil)) (fun _ _ => rfl)))
    (dpss_cons (dps_if (dpt_cmp op_eq lr_eqS (dv 4) dpe_str (nomark _)) (dpss_one (dps_ret (dpe_tup (dpa_cons (dv 4) (dpa_cons (dpe_xK (i := 1) (f := "site") ER he hcls hz hf (by decide) rfl (.inl rfl)) (dpa_cons (dpe_xK (i := 1) (f := "row") ER he hcls hz hf (by decide) rfl (.inl rfl)) dpa_nil)))))) dpss_nil)
    (dpss_cons (dps_if (dpt_cmp op_in_seq lr_in (dv 4) (dpe_tup (dpa_cons dpe_str (dpa_cons dpe_str dpa_nil))) rfl) (dpss_one (dps_ret (dpe_tup (dpa_cons (dv 4) (dpa_cons (dpe_ifE (dpt_cmp op_eq lr_eqS (dv 4) dpe_str (nomark _)) (dpe_xK (i := 1) (f := "lacks") ER he hcls hz hf (by decide) rfl (.inl rfl)) (dpe_xK (i := 1) (f := "by") ER he hcls hz hf (by decide) rfl (.inl rfl))) dpa_nil))))) dpss_nil)
    (dpss_one (dps_ret (dpe_tup (dpa_cons (dv 4) (dpa_cons (dpe_ifE (dpt_cmp op_eq lr_eqS (dv 4) dpe_str (nomark _)) (dpe_xK (i := 1) (f := "row") ER he hcls hz hf (by decide) rfl (.inl rfl)) dpe_int) dpa_nil))))))))))))))))), ?_⟩
  · unfold sp_told at h; split at h <;> first | rfl | exact h.elim
  · intro ds S Q ED h
    unfold sp_told at h
    split at h
    · rename_i L cells vals
      obtain ⟨S0, wb, Q0, E0, lb, pt, ns, nv, h, hq, he⟩ := h
      simp only [wSeq, wSlT, wNo, wPart, dSlT, dCat, dListT, wFor, iR1, iR2, iTp, iLs, iNw, iLn, wNext, wIf, wRet, wRetN, wDrop, wAsg, gNm, wPar, wVar, wC, wOp, wUn, wTst, wChain, wAnd, wOr, wNot, wAndV, wOrV, wNotV, wIfE, wNil, wCons, wTup, wLst, wNew, wDer, wVL, wVLL, wALL, wCall, wIsa, wRaise, isB, dI0, dI, dU, dLen, dIx, gSubD, setD, wBM, isL, onL, dPopAt, dAppend, wIxV, wEqVL, wEqL, dEqS, dNeS, startD, List.map_cons, List.map_nil, List.length_cons, List.length_nil, List.cons_append, List.nil_append, List.replicate_succ, List.replicate_zero, List.getElem?_cons_zero, List.getElem?_cons_succ, List.set_cons_zero, List.set_cons_succ, Nat.reduceAdd, Nat.reduceSub, Nat.sub_self, kindD, dIsN, dNotN, isaB, String.reduceBEq, Bool.or_false, Bool.false_or, Bool.true_or, Bool.or_true, Bool.and_true, Bool.and_false, Bool.true_and, Bool.false_and, decide_true, decide_false, DL.isNon, if_true, if_false, Bool.not_true, Bool.not_false, Bool.false_eq_true, reduceIte, true_and, and_true, wTry, wFn]
      refine ⟨S0, wb, Q0, E0, lb, pt, ns, nv, h, fun d S' q => ⟨_, Le.refl _, hq d S' q⟩, fun e S' q => ?_⟩
      obtain ⟨h1, d, h2, h3⟩ := he e S' q
      generalize joinS S S0 S' = S1 at h2 h3 ⊢
      clear h hq he q
      rw [h1]
      have hnm := hsub e.name (catE_e h1).1
      clear h1
      obtain ⟨cnt, j, idx, wj⟩ := err_bits _ hnm
      have hxd : xdAt e S1 := by
        unfold toldD at h2
        unfold xdAt
        split <;> first | trivial | skip
        rename_i dd q
        rw [q] at h2
        dsimp only at h2
        split at h2
        · rename_i fs q2
          first | trivial | (rw [q2]; trivial) | (simp only [q2])
        · cases h2
      intro a ha
      simp only [wSeq, wSlT, wNo, wPart, dSlT, dCat, dListT, wFor, iR1, iR2, iTp, iLs, iNw, iLn, wNext, wIf, wRet, wRetN, wDrop, wAsg, gNm, wPar, wVar, wC, wOp, wUn, wTst, wChain, wAnd, wOr, wNot, wAndV, wOrV, wNotV, wIfE, wNil, wCons, wTup, wLst, wNew, wDer, wVL, wVLL, wALL, wCall, wIsa, wRaise, isB, dI0, dI, dU, dLen, dIx, gSubD, setD, wBM, isL, onL, dPopAt, dAppend, wIxV, wEqVL, wEqL, dEqS, dNeS, startD, List.map_cons, List.map_nil, List.length_cons, List.length_nil, List.cons_append, List.nil_append, List.replicate_succ, List.replicate_zero, List.getElem?_cons_zero, List.getElem?_cons_succ, List.set_cons_zero, List.set_cons_succ, Nat.reduceAdd, Nat.reduceSub, Nat.sub_self, kindD, dIsN, dNotN, isaB, String.reduceBEq, Bool.or_false, Bool.false_or, Bool.true_or, Bool.or_true, Bool.and_true, Bool.and_false, Bool.true_and, Bool.false_and, decide_true, decide_false, DL.isNon, if_true, if_false, Bool.not_true, Bool.not_false, Bool.false_eq_true, reduceIte, true_and, and_true, wIsE, wCatV, sup_same]
      repeat first | refine ⟨hxd.le (by repeat first | exact Le.refl _ | refine Le.sup ?_ (by assumption)), ?_⟩ | refine ⟨by decide, ?_⟩ | intro p hp
      generalize hS2 : sup _ p _ = S2
      have hl : Le S1 S2 := by
        rw [← hS2]
        repeat first | exact Le.refl _ | refine Le.sup ?_ (by assumption)
      have e2 : S2 p = some (.lst (errD e.name)) := by rw [← hS2, sup_same, errD_eq]
      rw [errD_eq] at e2
      clear hS2
      simp only [wSeq, wSlT, wNo, wPart, dSlT, dCat, dListT, wFor, iR1, iR2, iTp, iLs, iNw, iLn, wNext, wIf, wRet, wRetN, wDrop, wAsg, gNm, wPar, wVar, wC, wOp, wUn, wTst, wChain, wAnd, wOr, wNot, wAndV, wOrV, wNotV, wIfE, wNil, wCons, wTup, wLst, wNew, wDer, wVL, wVLL, wALL, wCall, wIsa, wRaise, isB, dI0, dI, dU, dLen, dIx, gSubD, setD, wBM, isL, onL, dPopAt, dAppend, wIxV, wEqVL, wEqL, dEqS, dNeS, startD, List.map_cons, List.map_nil, List.length_cons, List.length_nil, List.cons_append, List.nil_append, List.replicate_succ, List.replicate_zero, List.getElem?_cons_zero, List.getElem?_cons_succ, List.set_cons_zero, List.set_cons_succ, Nat.reduceAdd, Nat.reduceSub, Nat.sub_self, kindD, dIsN, dNotN, isaB, String.reduceBEq, Bool.or_false, Bool.false_or, Bool.true_or, Bool.or_true, Bool.and_true, Bool.and_false, Bool.true_and, Bool.false_and, decide_true, decide_false, DL.isNon, if_true, if_false, Bool.not_true, Bool.not_false, Bool.false_eq_true, reduceIte, true_and, and_true, dCountB, sup_same, asBls_err, cnt, e2, wIsE]
      refine ⟨hxd.le hl, by decide, fun q hq => ⟨by decide, by decide, ?_⟩⟩
      have e3 : ∀ o, sup S2 q o p = some (.lst (errD e.name)) := fun o => by rw [sup_ne (sne e2 hq), e2, errD_eq]
      simp only [errD_eq] at e3
      have aw := atI_err wj
      simp only [wSeq, wSlT, wNo, wPart, dSlT, dCat, dListT, wFor, iR1, iR2, iTp, iLs, iNw, iLn, wNext, wIf, wRet, wRetN, wDrop, wAsg, gNm, wPar, wVar, wC, wOp, wUn, wTst, wChain, wAnd, wOr, wNot, wAndV, wOrV, wNotV, wIfE, wNil, wCons, wTup, wLst, wNew, wDer, wVL, wVLL, wALL, wCall, wIsa, wRaise, isB, dI0, dI, dU, dLen, dIx, gSubD, setD, wBM, isL, onL, dPopAt, dAppend, wIxV, wEqVL, wEqL, dEqS, dNeS, startD, List.map_cons, List.map_nil, List.length_cons, List.length_nil, List.cons_append, List.nil_append, List.replicate_succ, List.replicate_zero, List.getElem?_cons_zero, List.getElem?_cons_succ, List.set_cons_zero, List.set_cons_succ, Nat.reduceAdd, Nat.reduceSub, Nat.sub_self, kindD, dIsN, dNotN, isaB, String.reduceBEq, Bool.or_false, Bool.false_or, Bool.true_or, Bool.or_true, Bool.and_true, Bool.and_false, Bool.true_and, Bool.false_and, decide_true, decide_false, DL.isNon, if_true, if_false, Bool.not_true, Bool.not_false, Bool.false_eq_true, reduceIte, true_and, and_true, dIndexB, asBls_err, idx, e3, aw, dIn, flatD, flatDs, inV, eqV, List.any_cons, List.any_nil]
      generalize hS3 : sup S2 q _ = S3
      have hl3 : Le S1 S3 := by rw [← hS3]; exact hl.sup hq
      clear hS3
      simp only [wSeq, wSlT, wNo, wPart, dSlT, dCat, dListT, wFor, iR1, iR2, iTp, iLs, iNw, iLn, wNext, wIf, wRet, wRetN, wDrop, wAsg, gNm, wPar, wVar, wC, wOp, wUn, wTst, wChain, wAnd, wOr, wNot, wAndV, wOrV, wNotV, wIfE, wNil, wCons, wTup, wLst, wNew, wDer, wVL, wVLL, wALL, wCall, wIsa, wRaise, isB, dI0, dI, dU, dLen, dIx, gSubD, setD, wBM, isL, onL, dPopAt, dAppend, wIxV, wEqVL, wEqL, dEqS, dNeS, startD, List.map_cons, List.map_nil, List.length_cons, List.length_nil, List.cons_append, List.nil_append, List.replicate_succ, List.replicate_zero, List.getElem?_cons_zero, List.getElem?_cons_succ, List.set_cons_zero, List.set_cons_succ, Nat.reduceAdd, Nat.reduceSub, Nat.sub_self, kindD, dIsN, dNotN, isaB, String.reduceBEq, Bool.or_false, Bool.false_or, Bool.true_or, Bool.or_true, Bool.and_true, Bool.and_false, Bool.true_and, Bool.false_and, decide_true, decide_false, DL.isNon, if_true, if_false, Bool.not_true, Bool.not_false, Bool.false_eq_true, reduceIte, true_and, and_true, wXf]
      unfold toldD at h2
      have fin : Q d S1 → Dr Q d S3 := fun q => ⟨S1, hl3, q⟩
      cases hat : e.at_ with
      | none =>
        rw [hat] at h2
        dsimp only at h2
        split at h2
        · cases h2
        · rename_i hn4
          cases h2
          simp only [List.mem_cons, List.not_mem_nil, or_false, not_or] at hn4
          obtain ⟨n1, n2, n3, n4⟩ := hn4
          rw [if_neg (by simp [n1]), if_neg (by simp [Ne.symm n2, Ne.symm n3]), if_neg (by simp [n4])]
          exact ⟨by decide, by decide, fin h3⟩
      | some dd =>
        rw [hat] at h2
        dsimp only at h2
        split at h2
        · rename_i fs q2
          have q3 := hl3.at_ q2
          dsimp only
          rw [q3]
          dsimp only
          split at h2
          · rename_i n1
            rw [if_pos (by simp [n1])]
            split at h2
            · rename_i x y l1 l2
              cases h2
              rw [l1, l2]
              exact ⟨by decide, fin h3⟩
            · cases h2
          · rename_i n1
            rw [if_neg (by simp [n1])]
            refine ⟨by decide, ?_⟩
            split at h2
            · rename_i n2
              rw [if_pos (by simp [n2]), if_pos (by simp [n2])]
              split at h2
              · rename_i x l1
                cases h2
                rw [l1]
                exact ⟨by decide, fin h3⟩
              · cases h2
            · rename_i n2
              split at h2
              · rename_i n3
                rw [if_pos (by simp [n3]), if_neg (by simp [n2])]
                split at h2
                · rename_i x l1
                  cases h2
                  rw [l1]
                  exact ⟨by decide, fin h3⟩
                · cases h2
              · rename_i n3
                rw [if_neg (by simp [Ne.symm n2, Ne.symm n3])]
                split at h2
                · rename_i n4
                  rw [if_pos (by simp [n4])]
                  split at h2
                  · rename_i x l1
                    cases h2
                    rw [l1]
                    exact ⟨by decide, fin h3⟩
                  · cases h2
                · cases h2
        · cases h2
    · exact h.elim
theorem sc__law_all : FnScope ["_law_works", "_law_due", "_law_work"] ["_law_works", "_law_due"] (defScope s__law_all) := ⟨rfl, rfl, rfl, by decide +kernel, rfl, by decide +kernel, by decide +kernel⟩
theorem ok_all (errs : List Str) (k n : Nat) (G : Def K mg "_law_all" s__law_all ["_law_works", "_law_due"]) (T : Txt K mg) (c__law_told : Cal P w K mg base "_law_told" (k + 2) ["_law_work"] (sp_told P w K mg base k errs)) (c__law_alike : Cal P w K mg base "_law_alike" n ["_law_found", "_law_due"] (sp_alike n)) :
    Cal P w K mg base "_law_all" (k + n + 3) ["_law_works", "_law_due"] (sp_all P w K mg base k errs n) := by
  refine G.calD sc__law_all (fun ds S Q E h => ?_) fun f cdv A outer s H E hr => ⟨_, (dpss_one (dps_ret (dpe_eqL (hr.units) (dpl_lc (own := [("_law_work", 2)]) rfl sc__law_all.nd (dpi_lst (dv 0)) (blkOk_by (own := [("_law_work", 2)]) (by rfl)) (fun _ _ _ _ _ => (dpg_name (vs := [2]) (i := 2) sc__law_all.nd rfl (by first | exact Or.inl rfl | exact Or.inr rfl) (by decide))) (fun _ _ _ _ _ => (dpts_one (dpt_not (dpt_val (dpe_cal c__law_alike hr (by first | decide | omega) rfl takes0 (dpa_cons (dpe_cal c__law_told hr (by first | decide | omega) rfl takes0 (dpa_cons (dv 2) dpa_nil)) (dpa_cons (dv 1) dpa_nil))))))) (fun _ _ _ _ _ => (dv 2))) (dpl_lst dpa_nil) (nomark _)))), ?_⟩
  · unfold sp_all at h; split at h <;> first | rfl | exact h.elim
  · intro ds S Q ED h
    unfold sp_all at h
    split at h
    · rename_i a due
      obtain ⟨ws, ea, hw, h⟩ := h
      simp only [wSeq, wSlT, wNo, wPart, dSlT, dCat, dListT, wFor, iR1, iR2, iTp, iLs, iNw, iLn, wNext, wIf, wRet, wRetN, wDrop, wAsg, gNm, wPar, wVar, wC, wOp, wUn, wTst, wChain, wAnd, wOr, wNot, wAndV, wOrV, wNotV, wIfE, wNil, wCons, wTup, wLst, wNew, wDer, wVL, wVLL, wALL, wCall, wIsa, wRaise, isB, dI0, dI, dU, dLen, dIx, gSubD, setD, wBM, isL, onL, dPopAt, dAppend, wIxV, wEqVL, wEqL, dEqS, dNeS, startD, List.map_cons, List.map_nil, List.length_cons, List.length_nil, List.cons_append, List.nil_append, List.replicate_succ, List.replicate_zero, List.getElem?_cons_zero, List.getElem?_cons_succ, List.set_cons_zero, List.set_cons_succ, Nat.reduceAdd, Nat.reduceSub, Nat.sub_self, kindD, dIsN, dNotN, isaB, String.reduceBEq, Bool.or_false, Bool.false_or, Bool.true_or, Bool.or_true, Bool.and_true, Bool.and_false, Bool.true_and, Bool.false_and, decide_true, decide_false, DL.isNon, if_true, if_false, Bool.not_true, Bool.not_false, Bool.false_eq_true, reduceIte, true_and, and_true, wLc, ea]
      refine lcW_ind (fun ds acc S' => acc = [] ∧ S' = S ∧ ∀ x ∈ ds, x ∈ ws) ?_ ?_ ⟨rfl, rfl, fun x hx => hx⟩
      · rintro acc S' ⟨rfl, rfl, -⟩
        refine ⟨ea, by decide, [], [], rfl, rfl, shaped_li [], shaped_li [], ?_⟩
        exact ⟨_, Le.refl _, h⟩
      · rintro d ds acc S' ⟨rfl, rfl, hd⟩ nx
        refine ⟨ea, ?_⟩
        simp only [wSeq, wSlT, wNo, wPart, dSlT, dCat, dListT, wFor, iR1, iR2, iTp, iLs, iNw, iLn, wNext, wIf, wRet, wRetN, wDrop, wAsg, gNm, wPar, wVar, wC, wOp, wUn, wTst, wChain, wAnd, wOr, wNot, wAndV, wOrV, wNotV, wIfE, wNil, wCons, wTup, wLst, wNew, wDer, wVL, wVLL, wALL, wCall, wIsa, wRaise, isB, dI0, dI, dU, dLen, dIx, gSubD, setD, wBM, isL, onL, dPopAt, dAppend, wIxV, wEqVL, wEqL, dEqS, dNeS, startD, List.map_cons, List.map_nil, List.length_cons, List.length_nil, List.cons_append, List.nil_append, List.replicate_succ, List.replicate_zero, List.getElem?_cons_zero, List.getElem?_cons_succ, List.set_cons_zero, List.set_cons_succ, Nat.reduceAdd, Nat.reduceSub, Nat.sub_self, kindD, dIsN, dNotN, isaB, String.reduceBEq, Bool.or_false, Bool.false_or, Bool.true_or, Bool.or_true, Bool.and_true, Bool.and_false, Bool.true_and, Bool.false_and, decide_true, decide_false, DL.isNon, if_true, if_false, Bool.not_true, Bool.not_false, Bool.false_eq_true, reduceIte, true_and, and_true, wLc, ea, wipeD]
        refine told_mono (hw d (hd d (by simp))) fun r S' q => ?_
        obtain ⟨rfl, qa⟩ := q
        simp only [wSeq, wSlT, wNo, wPart, dSlT, dCat, dListT, wFor, iR1, iR2, iTp, iLs, iNw, iLn, wNext, wIf, wRet, wRetN, wDrop, wAsg, gNm, wPar, wVar, wC, wOp, wUn, wTst, wChain, wAnd, wOr, wNot, wAndV, wOrV, wNotV, wIfE, wNil, wCons, wTup, wLst, wNew, wDer, wVL, wVLL, wALL, wCall, wIsa, wRaise, isB, dI0, dI, dU, dLen, dIx, gSubD, setD, wBM, isL, onL, dPopAt, dAppend, wIxV, wEqVL, wEqL, dEqS, dNeS, startD, List.map_cons, List.map_nil, List.length_cons, List.length_nil, List.cons_append, List.nil_append, List.replicate_succ, List.replicate_zero, List.getElem?_cons_zero, List.getElem?_cons_succ, List.set_cons_zero, List.set_cons_succ, Nat.reduceAdd, Nat.reduceSub, Nat.sub_self, kindD, dIsN, dNotN, isaB, String.reduceBEq, Bool.or_false, Bool.false_or, Bool.true_or, Bool.or_true, Bool.and_true, Bool.and_false, Bool.true_and, Bool.false_and, decide_true, decide_false, DL.isNon, if_true, if_false, Bool.not_true, Bool.not_false, Bool.false_eq_true, reduceIte, true_and, and_true, sp_alike]
        exact ⟨qa, nx _ _ ⟨rfl, rfl, fun x hx => hd x (by simp [hx])⟩⟩
    · exact h.elim
--HINT is_token | token | tup
--HINT is_token | len(token) != many | scal
--HINT join | pair | tup
def isNumD (d : D) (lo hi : Int) : Bool := match d with | .int i => decide (lo ≤ i) && decide (i ≤ hi) | _ => false
def kOk (S : Store) (d : D) : Prop := kindD S d ≠ none
def sp_is_number : SpD := fun ds S Q _ => match ds with | [d, .int lo, .int hi] => kOk S d ∧ Q (.bl (isNumD d lo hi)) S | _ => False
theorem sc_is_number : FnScope ["part", "low", "high"] ["part", "low", "high"] (defScope s_is_number) := ⟨rfl, rfl, rfl, by decide +kernel, rfl, by decide +kernel, by decide +kernel⟩
theorem ok_is_number (G : Def K mg "is_number" s_is_number ["part", "low", "high"]) (T : Txt K mg) : Cal P w K mg base "is_number" 1 ["part", "low", "high"] sp_is_number := by
  refine G.calD sc_is_number (fun ds S Q E h => ?_) fun f cdv A outer s H E hr => ⟨_, (dpss_one (dps_ret (dpe_and (dpe_isa (T := "int") (by decide) rfl T.b_isinstance bb_isinstance rfl T.b_int bb_int (dv 0)) (dpe_and (dpe_not (dpe_isa (T := "bool") (by decide) rfl T.b_isinstance bb_isinstance rfl T.b_bool bb_bool (dv 0))) (dpe_one (dpe_chain op_le op_le lr_cmp lr_cmp (dv 1) (dv 0) (dv 2))))))), ?_⟩
  · unfold sp_is_number at h; split at h <;> first | rfl | exact h.elim
  · intro ds S Q ED h
    unfold sp_is_number at h
    split at h
    · rename_i d lo hi
      obtain ⟨h1, h2⟩ := h
      have fin : ∀ b, isNumD d lo hi = b → Dr Q (.bl b) S := fun b e => ⟨S, Le.refl _, e ▸ h2⟩
      cases d with
      | int i =>
        simp only [wSeq, wSlT, wNo, wPart, dSlT, dCat, dListT, wFor, iR1, iR2, iTp, iLs, iNw, iLn, wNext, wIf, wRet, wRetN, wDrop, wAsg, gNm, wPar, wVar, wC, wOp, wUn, wTst, wChain, wAnd, wOr, wNot, wAndV, wOrV, wNotV, wIfE, wNil, wCons, wTup, wLst, wNew, wDer, wVL, wVLL, wALL, wCall, wIsa, wRaise, isB, dI0, dI, dU, dLen, dIx, gSubD, setD, wBM, isL, onL, dPopAt, dAppend, wIxV, wEqVL, wEqL, dEqS, dNeS, startD, List.map_cons, List.map_nil, List.length_cons, List.length_nil, List.cons_append, List.nil_append, List.replicate_succ, List.replicate_zero, List.getElem?_cons_zero, List.getElem?_cons_succ, List.set_cons_zero, List.set_cons_succ, Nat.reduceAdd, Nat.reduceSub, Nat.sub_self, kindD, dIsN, dNotN, isaB, String.reduceBEq, Bool.or_false, Bool.false_or, Bool.true_or, Bool.or_true, Bool.and_true, Bool.and_false, Bool.true_and, Bool.false_and, decide_true, decide_false, DL.isNon, if_true, if_false, Bool.not_true, Bool.not_false, Bool.false_eq_true, reduceIte, true_and, and_true]
        by_cases h3 : lo ≤ i
        · simp only [h3, decide_true, reduceIte]
          exact fin _ (by simp [isNumD, h3])
        · simp only [h3, decide_false, Bool.false_eq_true, reduceIte]
          exact fin _ (by simp [isNumD, h3])
      | ref a =>
        unfold kOk kindD at h1
        dsimp only at h1
        simp only [wSeq, wSlT, wNo, wPart, dSlT, dCat, dListT, wFor, iR1, iR2, iTp, iLs, iNw, iLn, wNext, wIf, wRet, wRetN, wDrop, wAsg, gNm, wPar, wVar, wC, wOp, wUn, wTst, wChain, wAnd, wOr, wNot, wAndV, wOrV, wNotV, wIfE, wNil, wCons, wTup, wLst, wNew, wDer, wVL, wVLL, wALL, wCall, wIsa, wRaise, isB, dI0, dI, dU, dLen, dIx, gSubD, setD, wBM, isL, onL, dPopAt, dAppend, wIxV, wEqVL, wEqL, dEqS, dNeS, startD, List.map_cons, List.map_nil, List.length_cons, List.length_nil, List.cons_append, List.nil_append, List.replicate_succ, List.replicate_zero, List.getElem?_cons_zero, List.getElem?_cons_succ, List.set_cons_zero, List.set_cons_succ, Nat.reduceAdd, Nat.reduceSub, Nat.sub_self, kindD, dIsN, dNotN, isaB, String.reduceBEq, Bool.or_false, Bool.false_or, Bool.true_or, Bool.or_true, Bool.and_true, Bool.and_false, Bool.true_and, Bool.false_and, decide_true, decide_false, DL.isNon, if_true, if_false, Bool.not_true, Bool.not_false, Bool.false_eq_true, reduceIte, true_and, and_true]
        split at h1 <;> first | (rename_i e; simp only [e, isaB, String.reduceBEq, Bool.or_false, Bool.false_eq_true, reduceIte, Bool.false_and, Bool.and_false]; exact fin _ rfl) | exact absurd rfl h1
      | fn L c => exact absurd rfl h1
      | fnS L c v => exact absurd rfl h1
      | rl xs => exact absurd rfl h1
      | _ =>
        simp only [wSeq, wSlT, wNo, wPart, dSlT, dCat, dListT, wFor, iR1, iR2, iTp, iLs, iNw, iLn, wNext, wIf, wRet, wRetN, wDrop, wAsg, gNm, wPar, wVar, wC, wOp, wUn, wTst, wChain, wAnd, wOr, wNot, wAndV, wOrV, wNotV, wIfE, wNil, wCons, wTup, wLst, wNew, wDer, wVL, wVLL, wALL, wCall, wIsa, wRaise, isB, dI0, dI, dU, dLen, dIx, gSubD, setD, wBM, isL, onL, dPopAt, dAppend, wIxV, wEqVL, wEqL, dEqS, dNeS, startD, List.map_cons, List.map_nil, List.length_cons, List.length_nil, List.cons_append, List.nil_append, List.replicate_succ, List.replicate_zero, List.getElem?_cons_zero, List.getElem?_cons_succ, List.set_cons_zero, List.set_cons_succ, Nat.reduceAdd, Nat.reduceSub, Nat.sub_self, kindD, dIsN, dNotN, isaB, String.reduceBEq, Bool.or_false, Bool.false_or, Bool.true_or, Bool.or_true, Bool.and_true, Bool.and_false, Bool.true_and, Bool.false_and, decide_true, decide_false, DL.isNon, if_true, if_false, Bool.not_true, Bool.not_false, Bool.false_eq_true, reduceIte, true_and, and_true]
        exact fin _ rfl
    · exact h.elim
def isTokD (d : D) (n : Int) : Bool := match d with | .tup xs => decide ((xs.length : Int) = n) && xs.all fun x => isNumD x 0 999 | _ => false
def kOks (S : Store) (d : D) : Prop := kOk S d ∧ ∀ xs, d = .tup xs → xs.length ≤ sizeLine ∧ ∀ x ∈ xs, kOk S x
def sp_is_token : SpD := fun ds S Q _ => match ds with | [d, .int n] => kOks S d ∧ Q (.bl (isTokD d n)) S | _ => False
theorem sc_is_token : FnScope ["token", "many", "count"] ["token", "many"] (defScope s_is_token) := ⟨rfl, rfl, rfl, by decide +kernel, rfl, by decide +kernel, by decide +kernel⟩
theorem ok_is_token (G : Def K mg "is_token" s_is_token ["token", "many"]) (T : Txt K mg) (c_is_number : Cal P w K mg base "is_number" 1 ["part", "low", "high"] sp_is_number) : Cal P w K mg base "is_token" 2 ["token", "many"] sp_is_token := by
  refine G.calD sc_is_token (fun ds S Q E h => ?_) fun f cdv A outer s H E hr => ⟨_, (dpss_cons (dps_if (dpw_pt (dpw_or (dpt_not (dpt_val (dpe_isa (T := "tuple") (by decide) rfl T.b_isinstance bb_isinstance rfl T.b_tuple bb_tuple (dv 0)))) (dpw_or1 (dpt_cmp op_ne lr_neS (dpe_ba call_len lc_len rfl T.b_len bb_len (dpa_cons (dv 0) dpa_nil)) (dv 1) (nomark _))))) (dpss_one (dps_ret dpe_bl)) dpss_nil)
    (dpss_one (dps_ret (dpe_not (dpe_bv (cr_any rfl) lc_any rfl T.b_any bb_any (dpv_new (dpl_lc (own := [("count", 2)]) rfl sc_is_token.nd (dpi_tup (dv 0)) (blkOk_by (own := [("count", 2)]) (by rfl)) (fun _ _ _ _ _ => (dpg_name (vs := [2]) (i := 2) sc_is_token.nd rfl (by first | exact Or.inl rfl | exact Or.inr rfl) (by decide))) (fun _ _ _ _ _ => dpts_nil) (fun _ _ _ _ _ => (dpe_not (dpe_cal c_is_number hr (by first | decide | omega) rfl takes0 (dpa_cons (dv 2) (dpa_cons dpe_int (dpa_cons (dpe_cst T.c_MOST_PUTS rfl) dpa_nil))))))))))))), ?_⟩
  · unfold sp_is_token at h; split at h <;> first | rfl | exact h.elim
  · intro ds S Q ED h
    unfold sp_is_token at h
    split at h
    · rename_i d n
      obtain ⟨⟨h1, h0⟩, h2⟩ := h
      have fin : ∀ b, isTokD d n = b → Dr Q (.bl b) S := fun b e => ⟨S, Le.refl _, e ▸ h2⟩
      cases d with
      | tup xs =>
        obtain ⟨hl, h0⟩ := h0 xs rfl
        simp only [wSeq, wSlT, wNo, wPart, dSlT, dCat, dListT, wFor, iR1, iR2, iTp, iLs, iNw, iLn, wNext, wIf, wRet, wRetN, wDrop, wAsg, gNm, wPar, wVar, wC, wOp, wUn, wTst, wChain, wAnd, wOr, wNot, wAndV, wOrV, wNotV, wIfE, wNil, wCons, wTup, wLst, wNew, wDer, wVL, wVLL, wALL, wCall, wIsa, wRaise, isB, dI0, dI, dU, dLen, dIx, gSubD, setD, wBM, isL, onL, dPopAt, dAppend, wIxV, wEqVL, wEqL, dEqS, dNeS, startD, List.map_cons, List.map_nil, List.length_cons, List.length_nil, List.cons_append, List.nil_append, List.replicate_succ, List.replicate_zero, List.getElem?_cons_zero, List.getElem?_cons_succ, List.set_cons_zero, List.set_cons_succ, Nat.reduceAdd, Nat.reduceSub, Nat.sub_self, kindD, dIsN, dNotN, isaB, String.reduceBEq, Bool.or_false, Bool.false_or, Bool.true_or, Bool.or_true, Bool.and_true, Bool.and_false, Bool.true_and, Bool.false_and, decide_true, decide_false, DL.isNon, if_true, if_false, Bool.not_true, Bool.not_false, Bool.false_eq_true, reduceIte, true_and, and_true, wLc]
        by_cases h3 : (xs.length : Int) = n
        · simp only [h3, decide_true, Bool.not_true, Bool.false_eq_true, reduceIte]
          refine lcW_map (fun x => .bl (!isNumD x 0 999)) True.intro (by simpa using hl) (fun d hd Kt Z k => ?_) ?_
          · simp only [wSeq, wSlT, wNo, wPart, dSlT, dCat, dListT, wFor, iR1, iR2, iTp, iLs, iNw, iLn, wNext, wIf, wRet, wRetN, wDrop, wAsg, gNm, wPar, wVar, wC, wOp, wUn, wTst, wChain, wAnd, wOr, wNot, wAndV, wOrV, wNotV, wIfE, wNil, wCons, wTup, wLst, wNew, wDer, wVL, wVLL, wALL, wCall, wIsa, wRaise, isB, dI0, dI, dU, dLen, dIx, gSubD, setD, wBM, isL, onL, dPopAt, dAppend, wIxV, wEqVL, wEqL, dEqS, dNeS, startD, List.map_cons, List.map_nil, List.length_cons, List.length_nil, List.cons_append, List.nil_append, List.replicate_succ, List.replicate_zero, List.getElem?_cons_zero, List.getElem?_cons_succ, List.set_cons_zero, List.set_cons_succ, Nat.reduceAdd, Nat.reduceSub, Nat.sub_self, kindD, dIsN, dNotN, isaB, String.reduceBEq, Bool.or_false, Bool.false_or, Bool.true_or, Bool.or_true, Bool.and_true, Bool.and_false, Bool.true_and, Bool.false_and, decide_true, decide_false, DL.isNon, if_true, if_false, Bool.not_true, Bool.not_false, Bool.false_eq_true, reduceIte, true_and, and_true, wipeD, wYes, sp_is_number]
            exact ⟨h0 d hd, k⟩
          · refine dAny_map ?_
            exact fin _ (by simp [isTokD, h3, List.all_eq_not_any_not])
        · simp only [h3, decide_false, Bool.not_false, reduceIte]
          exact fin _ (by simp [isTokD, h3])
      | ref a =>
        unfold kOk kindD at h1
        dsimp only at h1
        simp only [wSeq, wSlT, wNo, wPart, dSlT, dCat, dListT, wFor, iR1, iR2, iTp, iLs, iNw, iLn, wNext, wIf, wRet, wRetN, wDrop, wAsg, gNm, wPar, wVar, wC, wOp, wUn, wTst, wChain, wAnd, wOr, wNot, wAndV, wOrV, wNotV, wIfE, wNil, wCons, wTup, wLst, wNew, wDer, wVL, wVLL, wALL, wCall, wIsa, wRaise, isB, dI0, dI, dU, dLen, dIx, gSubD, setD, wBM, isL, onL, dPopAt, dAppend, wIxV, wEqVL, wEqL, dEqS, dNeS, startD, List.map_cons, List.map_nil, List.length_cons, List.length_nil, List.cons_append, List.nil_append, List.replicate_succ, List.replicate_zero, List.getElem?_cons_zero, List.getElem?_cons_succ, List.set_cons_zero, List.set_cons_succ, Nat.reduceAdd, Nat.reduceSub, Nat.sub_self, kindD, dIsN, dNotN, isaB, String.reduceBEq, Bool.or_false, Bool.false_or, Bool.true_or, Bool.or_true, Bool.and_true, Bool.and_false, Bool.true_and, Bool.false_and, decide_true, decide_false, DL.isNon, if_true, if_false, Bool.not_true, Bool.not_false, Bool.false_eq_true, reduceIte, true_and, and_true]
        split at h1 <;> first | (rename_i e; simp only [e, isaB, String.reduceBEq, Bool.or_false, Bool.false_eq_true, reduceIte, Bool.false_and, Bool.and_false, Bool.not_false]; exact fin _ rfl) | exact absurd rfl h1
      | fn L c => exact absurd rfl h1
      | fnS L c v => exact absurd rfl h1
      | rl xs => exact absurd rfl h1
      | _ =>
        simp only [wSeq, wSlT, wNo, wPart, dSlT, dCat, dListT, wFor, iR1, iR2, iTp, iLs, iNw, iLn, wNext, wIf, wRet, wRetN, wDrop, wAsg, gNm, wPar, wVar, wC, wOp, wUn, wTst, wChain, wAnd, wOr, wNot, wAndV, wOrV, wNotV, wIfE, wNil, wCons, wTup, wLst, wNew, wDer, wVL, wVLL, wALL, wCall, wIsa, wRaise, isB, dI0, dI, dU, dLen, dIx, gSubD, setD, wBM, isL, onL, dPopAt, dAppend, wIxV, wEqVL, wEqL, dEqS, dNeS, startD, List.map_cons, List.map_nil, List.length_cons, List.length_nil, List.cons_append, List.nil_append, List.replicate_succ, List.replicate_zero, List.getElem?_cons_zero, List.getElem?_cons_succ, List.set_cons_zero, List.set_cons_succ, Nat.reduceAdd, Nat.reduceSub, Nat.sub_self, kindD, dIsN, dNotN, isaB, String.reduceBEq, Bool.or_false, Bool.false_or, Bool.true_or, Bool.or_true, Bool.and_true, Bool.and_false, Bool.true_and, Bool.false_and, decide_true, decide_false, DL.isNon, if_true, if_false, Bool.not_true, Bool.not_false, Bool.false_eq_true, reduceIte, true_and, and_true]
        exact fin _ rfl
    · exact h.elim
theorem isTokD_e {d : D} {n : Int} (h : isTokD d n = true) : ∃ as : List Int, d = .tup (as.map D.int) ∧ (as.length : Int) = n ∧ ∀ a ∈ as, 0 ≤ a ∧ a ≤ 999 := by
  unfold isTokD at h
  split at h
  · rename_i xs
    rw [Bool.and_eq_true, decide_eq_true_eq] at h
    obtain ⟨h1, h2⟩ := h
    have all : ∀ l : List D, (l.all fun x => isNumD x 0 999) = true → ∃ as : List Int, l = as.map D.int ∧ ∀ a ∈ as, 0 ≤ a ∧ a ≤ 999 := fun l => by
      induction l with
      | nil => exact fun _ => ⟨[], rfl, fun a ha => by cases ha⟩
      | cons x l ih =>
        intro hx
        rw [List.all_cons, Bool.and_eq_true] at hx
        obtain ⟨as, e, ha⟩ := ih hx.2
        have hx1 := hx.1
        unfold isNumD at hx1
        split at hx1
        · rename_i i
          rw [Bool.and_eq_true, decide_eq_true_eq, decide_eq_true_eq] at hx1
          refine ⟨i :: as, by rw [e]; rfl, fun a h => ?_⟩
          rcases List.mem_cons.mp h with z | h
          · rw [z]; exact hx1
          · exact ha a h
        · cases hx1
    obtain ⟨as, e, ha⟩ := all xs h2
    subst e
    exact ⟨as, rfl, by simpa using h1, ha⟩
  · cases h
theorem isTokD_of {as : List Int} (h : ∀ a ∈ as, 0 ≤ a ∧ a ≤ 999) : isTokD (.tup (as.map D.int)) as.length = true := by
  simp only [isTokD, List.length_map, decide_true, Bool.true_and, List.all_map, List.all_eq_true, Function.comp]
  intro a ha
  obtain ⟨h1, h2⟩ := h a ha
  simp [isNumD, h1, h2]
def sp_need_token : SpD := fun ds S Q E => match ds with | [d, .int n] => kOks S d ∧ (if isTokD d n = true then Q .non S else E ⟨"BadToken", none⟩ S) | _ => False
theorem sc_need_token : FnScope ["token", "many"] ["token", "many"] (defScope s_need_token) := ⟨rfl, rfl, rfl, by decide +kernel, rfl, by decide +kernel, by decide +kernel⟩
theorem ok_need_token (G : Def K mg "need_token" s_need_token ["token", "many"]) (T : Txt K mg) (c_is_token : Cal P w K mg base "is_token" 2 ["token", "many"] sp_is_token) : Cal P w K mg base "need_token" 3 ["token", "many"] sp_need_token := by
  refine G.calD sc_need_token (fun ds S Q E h => ?_) fun f cdv A outer s H E hr => ⟨_, (dpss_one (dps_if (dpt_not (dpt_val (dpe_cal c_is_token hr (by first | decide | omega) rfl (takes_of rfl rfl rfl rfl) (dpa_cons (dv 0) (dpa_cons (dv 1) dpa_nil))))) (dpss_one (dps_rz T.e_BadToken rfl (takes_of rfl rfl rfl rfl) rfl)) dpss_nil)), ?_⟩
  · unfold sp_need_token at h; split at h <;> first | rfl | exact h.elim
  · intro ds S Q ED h
    unfold sp_need_token at h
    split at h
    · rename_i d n
      obtain ⟨h1, h2⟩ := h
      simp only [wSeq, wSlT, wNo, wPart, dSlT, dCat, dListT, wFor, iR1, iR2, iTp, iLs, iNw, iLn, wNext, wIf, wRet, wRetN, wDrop, wAsg, gNm, wPar, wVar, wC, wOp, wUn, wTst, wChain, wAnd, wOr, wNot, wAndV, wOrV, wNotV, wIfE, wNil, wCons, wTup, wLst, wNew, wDer, wVL, wVLL, wALL, wCall, wIsa, wRaise, isB, dI0, dI, dU, dLen, dIx, gSubD, setD, wBM, isL, onL, dPopAt, dAppend, wIxV, wEqVL, wEqL, dEqS, dNeS, startD, List.map_cons, List.map_nil, List.length_cons, List.length_nil, List.cons_append, List.nil_append, List.replicate_succ, List.replicate_zero, List.getElem?_cons_zero, List.getElem?_cons_succ, List.set_cons_zero, List.set_cons_succ, Nat.reduceAdd, Nat.reduceSub, Nat.sub_self, kindD, dIsN, dNotN, isaB, String.reduceBEq, Bool.or_false, Bool.false_or, Bool.true_or, Bool.or_true, Bool.and_true, Bool.and_false, Bool.true_and, Bool.false_and, decide_true, decide_false, DL.isNon, if_true, if_false, Bool.not_true, Bool.not_false, Bool.false_eq_true, reduceIte, true_and, and_true, sp_is_token]
      refine ⟨h1, ?_⟩
      cases h3 : isTokD d n with
      | true =>
        rw [h3] at h2
        exact ⟨S, Le.refl _, h2⟩
      | false =>
        rw [h3] at h2
        exact ⟨S, Le.refl _, h2⟩
    · exact h.elim
def joinI (as bs : List Int) : List Int := List.zipWith max as bs
theorem joinI_zip : ∀ as bs : List Int, joinI as bs = (as.zip bs).map fun p => max p.1 p.2
  | [], _ => rfl
  | _ :: _, [] => rfl
  | a :: as, b :: bs => congrArg (max a b :: ·) (joinI_zip as bs)
def maxP : D → D | .tup [.int i, .int j] => .int (max i j) | d => d
def sp_join : SpD := fun ds S Q _ => ∃ as bs : List Int, ds = [.tup (as.map D.int), .tup (bs.map D.int)] ∧ as.length ≤ 1000 ∧ Q (.tup ((joinI as bs).map D.int)) S
theorem sc_join : FnScope ["one", "other", "pair"] ["one", "other"] (defScope s_join) := ⟨rfl, rfl, rfl, by decide +kernel, rfl, by decide +kernel, by decide +kernel⟩
theorem ok_join (G : Def K mg "join" s_join ["one", "other"]) (T : Txt K mg) : Cal P w K mg base "join" 1 ["one", "other"] sp_join := by
  refine G.calD sc_join (fun ds S Q E h => ?_) fun f cdv A outer s H E hr => ⟨_, (dpss_one (dps_ret (dpe_tv call_tuple_of lc_tup rfl T.b_tuple bb_tuple (dpv_new (dpl_lc (own := [("pair", 2)]) rfl sc_join.nd (dpi_zipN rfl T.b_zip (dpa_cons (dv 0) (dpa_cons (dv 1) dpa_nil))) (blkOk_by (own := [("pair", 2)]) (by rfl)) (fun _ _ _ _ _ => (dpg_name (vs := [2]) (i := 2) sc_join.nd rfl (by first | exact Or.inl rfl | exact Or.inr rfl) (by decide))) (fun _ _ _ _ _ => dpts_nil) (fun _ _ _ _ _ => (dpe_ba (cr_maxT rfl) lc_maxT rfl T.b_max bb_max (dpa_cons (dv 2) dpa_nil)))))))), ?_⟩
  · obtain ⟨as, bs, rfl, _⟩ := h; rfl
  · rintro ds S Q ED ⟨as, bs, rfl, hl, h⟩
    simp only [wSeq, wSlT, wNo, wPart, dSlT, dCat, dListT, wFor, iR1, iR2, iTp, iLs, iNw, iLn, wNext, wIf, wRet, wRetN, wDrop, wAsg, gNm, wPar, wVar, wC, wOp, wUn, wTst, wChain, wAnd, wOr, wNot, wAndV, wOrV, wNotV, wIfE, wNil, wCons, wTup, wLst, wNew, wDer, wVL, wVLL, wALL, wCall, wIsa, wRaise, isB, dI0, dI, dU, dLen, dIx, gSubD, setD, wBM, isL, onL, dPopAt, dAppend, wIxV, wEqVL, wEqL, dEqS, dNeS, startD, List.map_cons, List.map_nil, List.length_cons, List.length_nil, List.cons_append, List.nil_append, List.replicate_succ, List.replicate_zero, List.getElem?_cons_zero, List.getElem?_cons_succ, List.set_cons_zero, List.set_cons_succ, Nat.reduceAdd, Nat.reduceSub, Nat.sub_self, kindD, dIsN, dNotN, isaB, String.reduceBEq, Bool.or_false, Bool.false_or, Bool.true_or, Bool.or_true, Bool.and_true, Bool.and_false, Bool.true_and, Bool.false_and, decide_true, decide_false, DL.isNon, if_true, if_false, Bool.not_true, Bool.not_false, Bool.false_eq_true, reduceIte, true_and, and_true, wLc, iZp]
    rw [zipD_map]
    refine lcW_map maxP True.intro (by simp; have : 1000 ≤ sizeLine := by decide
                                       omega) (fun d hd Kt Z k => ?_) ?_
    · obtain ⟨p, -, rfl⟩ := List.mem_map.mp hd
      simp only [wSeq, wSlT, wNo, wPart, dSlT, dCat, dListT, wFor, iR1, iR2, iTp, iLs, iNw, iLn, wNext, wIf, wRet, wRetN, wDrop, wAsg, gNm, wPar, wVar, wC, wOp, wUn, wTst, wChain, wAnd, wOr, wNot, wAndV, wOrV, wNotV, wIfE, wNil, wCons, wTup, wLst, wNew, wDer, wVL, wVLL, wALL, wCall, wIsa, wRaise, isB, dI0, dI, dU, dLen, dIx, gSubD, setD, wBM, isL, onL, dPopAt, dAppend, wIxV, wEqVL, wEqL, dEqS, dNeS, startD, List.map_cons, List.map_nil, List.length_cons, List.length_nil, List.cons_append, List.nil_append, List.replicate_succ, List.replicate_zero, List.getElem?_cons_zero, List.getElem?_cons_succ, List.set_cons_zero, List.set_cons_succ, Nat.reduceAdd, Nat.reduceSub, Nat.sub_self, kindD, dIsN, dNotN, isaB, String.reduceBEq, Bool.or_false, Bool.false_or, Bool.true_or, Bool.or_true, Bool.and_true, Bool.and_false, Bool.true_and, Bool.false_and, decide_true, decide_false, DL.isNon, if_true, if_false, Bool.not_true, Bool.not_false, Bool.false_eq_true, reduceIte, true_and, and_true, wipeD, wYes, dMaxT]
      exact k
    · simp only [wSeq, wSlT, wNo, wPart, dSlT, dCat, dListT, wFor, iR1, iR2, iTp, iLs, iNw, iLn, wNext, wIf, wRet, wRetN, wDrop, wAsg, gNm, wPar, wVar, wC, wOp, wUn, wTst, wChain, wAnd, wOr, wNot, wAndV, wOrV, wNotV, wIfE, wNil, wCons, wTup, wLst, wNew, wDer, wVL, wVLL, wALL, wCall, wIsa, wRaise, isB, dI0, dI, dU, dLen, dIx, gSubD, setD, wBM, isL, onL, dPopAt, dAppend, wIxV, wEqVL, wEqL, dEqS, dNeS, startD, List.map_cons, List.map_nil, List.length_cons, List.length_nil, List.cons_append, List.nil_append, List.replicate_succ, List.replicate_zero, List.getElem?_cons_zero, List.getElem?_cons_succ, List.set_cons_zero, List.set_cons_succ, Nat.reduceAdd, Nat.reduceSub, Nat.sub_self, kindD, dIsN, dNotN, isaB, String.reduceBEq, Bool.or_false, Bool.false_or, Bool.true_or, Bool.or_true, Bool.and_true, Bool.and_false, Bool.true_and, Bool.false_and, decide_true, decide_false, DL.isNon, if_true, if_false, Bool.not_true, Bool.not_false, Bool.false_eq_true, reduceIte, true_and, and_true, dTupOf]
      refine ⟨S, Le.refl _, ?_⟩
      have e : List.map maxP (List.map (fun p => D.tup [D.int p.1, D.int p.2]) (as.zip bs)) = (joinI as bs).map D.int := by
        rw [joinI_zip, List.map_map, List.map_map]
        rfl
      rw [e]
      exact h
def leI (as bs : List Int) : Bool := (as.zip bs).all fun p => decide (p.1 ≤ p.2)
def gtP : D → D | .tup [.int i, .int j] => .bl (decide (j < i)) | d => d
def sp_is_within : SpD := fun ds S Q _ => ∃ as bs : List Int, ds = [.tup (as.map D.int), .tup (bs.map D.int)] ∧ as.length ≤ 1000 ∧ Q (.bl (leI as bs)) S
theorem sc_is_within : FnScope ["one", "other", "mine", "yours"] ["one", "other"] (defScope s_is_within) := ⟨rfl, rfl, rfl, by decide +kernel, rfl, by decide +kernel, by decide +kernel⟩
theorem ok_is_within (G : Def K mg "is_within" s_is_within ["one", "other"]) (T : Txt K mg) : Cal P w K mg base "is_within" 1 ["one", "other"] sp_is_within := by
  refine G.calD sc_is_within (fun ds S Q E h => ?_) fun f cdv A outer s H E hr => ⟨_, (dpss_one (dps_ret (dpe_not (dpe_bv (cr_any rfl) lc_any rfl T.b_any bb_any (dpv_new (dpl_lc (own := [("mine", 2), ("yours", 3)]) rfl sc_is_within.nd (dpi_zip rfl T.b_zip (dpa_cons (dv 0) (dpa_cons (dv 1) dpa_nil))) (blkOk_by (own := [("mine", 2), ("yours", 3)]) (by rfl)) (fun _ _ _ _ _ => (dpg_tup (n := 2) rfl (dpgs_cons (dpg_name (vs := [2, 3]) (i := 2) sc_is_within.nd rfl (by first | exact Or.inl rfl | exact Or.inr rfl) (by decide)) (dpgs_cons (dpg_name (vs := [2, 3]) (i := 3) sc_is_within.nd rfl (by first | exact Or.inl rfl | exact Or.inr rfl) (by decide)) dpgs_nil)))) (fun _ _ _ _ _ => dpts_nil) (fun _ _ _ _ _ => (dpe_cmp op_gt lr_cmp (dv 2) (dv 3) (nomark _))))))))), ?_⟩
  · obtain ⟨as, bs, rfl, _⟩ := h; rfl
  · rintro ds S Q ED ⟨as, bs, rfl, hl, h⟩
    simp only [wSeq, wSlT, wNo, wPart, dSlT, dCat, dListT, wFor, iR1, iR2, iTp, iLs, iNw, iLn, wNext, wIf, wRet, wRetN, wDrop, wAsg, gNm, wPar, wVar, wC, wOp, wUn, wTst, wChain, wAnd, wOr, wNot, wAndV, wOrV, wNotV, wIfE, wNil, wCons, wTup, wLst, wNew, wDer, wVL, wVLL, wALL, wCall, wIsa, wRaise, isB, dI0, dI, dU, dLen, dIx, gSubD, setD, wBM, isL, onL, dPopAt, dAppend, wIxV, wEqVL, wEqL, dEqS, dNeS, startD, List.map_cons, List.map_nil, List.length_cons, List.length_nil, List.cons_append, List.nil_append, List.replicate_succ, List.replicate_zero, List.getElem?_cons_zero, List.getElem?_cons_succ, List.set_cons_zero, List.set_cons_succ, Nat.reduceAdd, Nat.reduceSub, Nat.sub_self, kindD, dIsN, dNotN, isaB, String.reduceBEq, Bool.or_false, Bool.false_or, Bool.true_or, Bool.or_true, Bool.and_true, Bool.and_false, Bool.true_and, Bool.false_and, decide_true, decide_false, DL.isNon, if_true, if_false, Bool.not_true, Bool.not_false, Bool.false_eq_true, reduceIte, true_and, and_true, wLc, iZp]
    rw [zipD_map]
    refine lcW_map gtP True.intro (by simp; have : 1000 ≤ sizeLine := by decide
                                      omega) (fun d hd Kt Z k => ?_) ?_
    · obtain ⟨p, -, rfl⟩ := List.mem_map.mp hd
      simp only [wSeq, wSlT, wNo, wPart, dSlT, dCat, dListT, wFor, iR1, iR2, iTp, iLs, iNw, iLn, wNext, wIf, wRet, wRetN, wDrop, wAsg, gNm, wPar, wVar, wC, wOp, wUn, wTst, wChain, wAnd, wOr, wNot, wAndV, wOrV, wNotV, wIfE, wNil, wCons, wTup, wLst, wNew, wDer, wVL, wVLL, wALL, wCall, wIsa, wRaise, isB, dI0, dI, dU, dLen, dIx, gSubD, setD, wBM, isL, onL, dPopAt, dAppend, wIxV, wEqVL, wEqL, dEqS, dNeS, startD, List.map_cons, List.map_nil, List.length_cons, List.length_nil, List.cons_append, List.nil_append, List.replicate_succ, List.replicate_zero, List.getElem?_cons_zero, List.getElem?_cons_succ, List.set_cons_zero, List.set_cons_succ, Nat.reduceAdd, Nat.reduceSub, Nat.sub_self, kindD, dIsN, dNotN, isaB, String.reduceBEq, Bool.or_false, Bool.false_or, Bool.true_or, Bool.or_true, Bool.and_true, Bool.and_false, Bool.true_and, Bool.false_and, decide_true, decide_false, DL.isNon, if_true, if_false, Bool.not_true, Bool.not_false, Bool.false_eq_true, reduceIte, true_and, and_true, wipeD, wYes, gTp, gCs, gNl]
      exact k
    · rw [List.nil_append, List.map_map]
      refine dAny_map (p := fun p : Int × Int => decide (p.2 < p.1)) ?_
      refine ⟨S, Le.refl _, ?_⟩
      have e : (!(as.zip bs).any fun p => decide (p.2 < p.1)) = leI as bs := by
        unfold leI
        have ef : (fun p : Int × Int => decide (p.2 < p.1)) = fun p => !decide (p.1 ≤ p.2) := by
          funext p
          rw [← decide_not]
          simp only [Int.not_le]
        rw [List.all_eq_not_any_not, ef]
      rw [e]
      exact h
def okB (a b : D) : Bool := match a with | .tup xs => decide (2 ≤ xs.length) && decide (xs.length ≤ 5) && isTokD a xs.length && isTokD b xs.length | _ => false
def sp_need_both : SpD := fun ds S Q E => match ds with | [a, b] => kOks S a ∧ kOks S b ∧ (if okB a b = true then Q .non S else E ⟨"BadToken", none⟩ S) | _ => False
theorem sc_need_both : FnScope ["one", "other"] ["one", "other"] (defScope s_need_both) := ⟨rfl, rfl, rfl, by decide +kernel, rfl, by decide +kernel, by decide +kernel⟩
theorem ok_need_both (G : Def K mg "need_both" s_need_both ["one", "other"]) (T : Txt K mg) (c_need_token : Cal P w K mg base "need_token" 3 ["token", "many"] sp_need_token) : Cal P w K mg base "need_both" 4 ["one", "other"] sp_need_both := by
  refine G.calD sc_need_both (fun ds S Q E h => ?_) fun f cdv A outer s H E hr => ⟨_, (dpss_cons (dps_if (dpw_pt (dpw_or (dpt_not (dpt_val (dpe_isa (T := "tuple") (by decide) rfl T.b_isinstance bb_isinstance rfl T.b_tuple bb_tuple (dv 0)))) (dpw_or1 (dpt_not (dpt_chain op_le op_le lr_cmp lr_cmp (dpe_cst T.c_LEAST_SITES rfl) (dpe_ba call_len lc_len rfl T.b_len bb_len (dpa_cons (dv 0) dpa_nil)) (dpe_cst T.c_MOST_SITES rfl)))))) (dpss_one (dps_rz T.e_BadToken rfl (takes_of rfl rfl rfl rfl) rfl)) dpss_nil)
    (dpss_cons (dps_expr (dpe_cal c_need_token hr (by first | decide | omega) rfl (takes_of rfl rfl rfl rfl) (dpa_cons (dv 0) (dpa_cons (dpe_ba call_len lc_len rfl T.b_len bb_len (dpa_cons (dv 0) dpa_nil)) dpa_nil))))
    (dpss_one (dps_expr (dpe_cal c_need_token hr (by first | decide | omega) rfl (takes_of rfl rfl rfl rfl) (dpa_cons (dv 1) (dpa_cons (dpe_ba call_len lc_len rfl T.b_len bb_len (dpa_cons (dv 0) dpa_nil)) dpa_nil))))))), ?_⟩
  · unfold sp_need_both at h; split at h <;> first | rfl | exact h.elim
  · intro ds S Q ED h
    unfold sp_need_both at h
    split at h
    · rename_i a b
      obtain ⟨ka, kb, h⟩ := h
      have bad : okB a b = false → DrX ED ⟨"BadToken", none⟩ S := fun e => by rw [e] at h; exact ⟨S, Le.refl _, h⟩
      cases a with
      | tup xs =>
        simp only [wSeq, wSlT, wNo, wPart, dSlT, dCat, dListT, wFor, iR1, iR2, iTp, iLs, iNw, iLn, wNext, wIf, wRet, wRetN, wDrop, wAsg, gNm, wPar, wVar, wC, wOp, wUn, wTst, wChain, wAnd, wOr, wNot, wAndV, wOrV, wNotV, wIfE, wNil, wCons, wTup, wLst, wNew, wDer, wVL, wVLL, wALL, wCall, wIsa, wRaise, isB, dI0, dI, dU, dLen, dIx, gSubD, setD, wBM, isL, onL, dPopAt, dAppend, wIxV, wEqVL, wEqL, dEqS, dNeS, startD, List.map_cons, List.map_nil, List.length_cons, List.length_nil, List.cons_append, List.nil_append, List.replicate_succ, List.replicate_zero, List.getElem?_cons_zero, List.getElem?_cons_succ, List.set_cons_zero, List.set_cons_succ, Nat.reduceAdd, Nat.reduceSub, Nat.sub_self, kindD, dIsN, dNotN, isaB, String.reduceBEq, Bool.or_false, Bool.false_or, Bool.true_or, Bool.or_true, Bool.and_true, Bool.and_false, Bool.true_and, Bool.false_and, decide_true, decide_false, DL.isNon, if_true, if_false, Bool.not_true, Bool.not_false, Bool.false_eq_true, reduceIte, true_and, and_true, sp_need_token]
        by_cases h1 : 2 ≤ xs.length
        · by_cases h2 : xs.length ≤ 5
          · have e1 : (2 : Int) ≤ (xs.length : Int) := by omega
            have e2 : (xs.length : Int) ≤ 5 := by omega
            simp only [e1, e2, decide_true, reduceIte, Bool.not_true, Bool.false_eq_true]
            refine ⟨ka, ?_⟩
            cases h3 : isTokD (.tup xs) xs.length with
            | false => exact bad (by simp [okB, h3])
            | true =>
              refine ⟨kb, ?_⟩
              cases h4 : isTokD b xs.length with
              | false => exact bad (by simp [okB, h4])
              | true =>
                rw [show okB (.tup xs) b = true by simp [okB, h1, h2, h3, h4]] at h
                exact ⟨S, Le.refl _, h⟩
          · have e1 : (2 : Int) ≤ (xs.length : Int) := by omega
            have e2 : ¬ (xs.length : Int) ≤ 5 := by omega
            simp only [e1, e2, decide_true, decide_false, reduceIte, Bool.not_true, Bool.not_false, Bool.false_eq_true]
            exact bad (by simp [okB, h2])
        · have e1 : ¬ (2 : Int) ≤ (xs.length : Int) := by omega
          simp only [e1, decide_false, reduceIte, Bool.not_false, Bool.false_eq_true]
          exact bad (by simp [okB, h1])
      | ref a =>
        have h1 := ka.1
        unfold kOk kindD at h1
        dsimp only at h1
        simp only [wSeq, wSlT, wNo, wPart, dSlT, dCat, dListT, wFor, iR1, iR2, iTp, iLs, iNw, iLn, wNext, wIf, wRet, wRetN, wDrop, wAsg, gNm, wPar, wVar, wC, wOp, wUn, wTst, wChain, wAnd, wOr, wNot, wAndV, wOrV, wNotV, wIfE, wNil, wCons, wTup, wLst, wNew, wDer, wVL, wVLL, wALL, wCall, wIsa, wRaise, isB, dI0, dI, dU, dLen, dIx, gSubD, setD, wBM, isL, onL, dPopAt, dAppend, wIxV, wEqVL, wEqL, dEqS, dNeS, startD, List.map_cons, List.map_nil, List.length_cons, List.length_nil, List.cons_append, List.nil_append, List.replicate_succ, List.replicate_zero, List.getElem?_cons_zero, List.getElem?_cons_succ, List.set_cons_zero, List.set_cons_succ, Nat.reduceAdd, Nat.reduceSub, Nat.sub_self, kindD, dIsN, dNotN, isaB, String.reduceBEq, Bool.or_false, Bool.false_or, Bool.true_or, Bool.or_true, Bool.and_true, Bool.and_false, Bool.true_and, Bool.false_and, decide_true, decide_false, DL.isNon, if_true, if_false, Bool.not_true, Bool.not_false, Bool.false_eq_true, reduceIte, true_and, and_true]
        split at h1 <;> first | (rename_i e; simp only [e, isaB, String.reduceBEq, Bool.or_false, Bool.false_eq_true, reduceIte, Bool.false_and, Bool.and_false, Bool.not_false]; exact bad rfl) | exact absurd rfl h1
      | fn L c => exact absurd rfl ka.1
      | fnS L c v => exact absurd rfl ka.1
      | rl xs => exact absurd rfl ka.1
      | _ =>
        simp only [wSeq, wSlT, wNo, wPart, dSlT, dCat, dListT, wFor, iR1, iR2, iTp, iLs, iNw, iLn, wNext, wIf, wRet, wRetN, wDrop, wAsg, gNm, wPar, wVar, wC, wOp, wUn, wTst, wChain, wAnd, wOr, wNot, wAndV, wOrV, wNotV, wIfE, wNil, wCons, wTup, wLst, wNew, wDer, wVL, wVLL, wALL, wCall, wIsa, wRaise, isB, dI0, dI, dU, dLen, dIx, gSubD, setD, wBM, isL, onL, dPopAt, dAppend, wIxV, wEqVL, wEqL, dEqS, dNeS, startD, List.map_cons, List.map_nil, List.length_cons, List.length_nil, List.cons_append, List.nil_append, List.replicate_succ, List.replicate_zero, List.getElem?_cons_zero, List.getElem?_cons_succ, List.set_cons_zero, List.set_cons_succ, Nat.reduceAdd, Nat.reduceSub, Nat.sub_self, kindD, dIsN, dNotN, isaB, String.reduceBEq, Bool.or_false, Bool.false_or, Bool.true_or, Bool.or_true, Bool.and_true, Bool.and_false, Bool.true_and, Bool.false_and, decide_true, decide_false, DL.isNon, if_true, if_false, Bool.not_true, Bool.not_false, Bool.false_eq_true, reduceIte, true_and, and_true]
        exact bad rfl
    · exact h.elim
theorem okB_e {a b : D} (h : okB a b = true) : ∃ as bs : List Int, a = .tup (as.map D.int) ∧ b = .tup (bs.map D.int) ∧ 2 ≤ as.length ∧ as.length ≤ 5 ∧ bs.length = as.length ∧ (∀ x ∈ as, 0 ≤ x ∧ x ≤ 999) ∧ ∀ x ∈ bs, 0 ≤ x ∧ x ≤ 999 := by
  unfold okB at h
  split at h
  · rename_i xs
    simp only [Bool.and_eq_true, decide_eq_true_eq] at h
    obtain ⟨⟨⟨h1, h2⟩, h3⟩, h4⟩ := h
    obtain ⟨as, e1, e2, e3⟩ := isTokD_e h3
    obtain ⟨bs, g1, g2, g3⟩ := isTokD_e h4
    exact ⟨as, bs, e1, g1, by omega, by omega, by omega, e3, g3⟩
  · cases h
theorem okB_of {as bs : List Int} (h1 : 2 ≤ as.length) (h2 : as.length ≤ 5) (h3 : bs.length = as.length) (ha : ∀ x ∈ as, 0 ≤ x ∧ x ≤ 999) (hb : ∀ x ∈ bs, 0 ≤ x ∧ x ≤ 999) : okB (.tup (as.map D.int)) (.tup (bs.map D.int)) = true := by
  have e := isTokD_of ha
  have g := isTokD_of hb
  rw [h3] at g
  simp [okB, h1, h2, e, g]
def sp_joined : SpD := fun ds S Q E => match ds with | [a, b] => kOks S a ∧ kOks S b ∧ (okB a b = true → ∀ as bs : List Int, a = .tup (as.map D.int) → b = .tup (bs.map D.int) → Q (.tup ((joinI as bs).map D.int)) S) ∧ (okB a b = false → E ⟨"BadToken", none⟩ S) | _ => False
theorem sc_joined : FnScope ["one", "other"] ["one", "other"] (defScope s_joined) := ⟨rfl, rfl, rfl, by decide +kernel, rfl, by decide +kernel, by decide +kernel⟩
theorem ok_joined (G : Def K mg "joined" s_joined ["one", "other"]) (T : Txt K mg) (c_need_both : Cal P w K mg base "need_both" 4 ["one", "other"] sp_need_both) (c_join : Cal P w K mg base "join" 1 ["one", "other"] sp_join) : Cal P w K mg base "joined" 5 ["one", "other"] sp_joined := by
  refine G.calD sc_joined (fun ds S Q E h => ?_) fun f cdv A outer s H E hr => ⟨_, (dpss_cons (dps_expr (dpe_cal c_need_both hr (by first | decide | omega) rfl (takes_of rfl rfl rfl rfl) (dpa_cons (dv 0) (dpa_cons (dv 1) dpa_nil))))
    (dpss_one (dps_ret (dpe_cal c_join hr (by first | decide | omega) rfl (takes_of rfl rfl rfl rfl) (dpa_cons (dv 0) (dpa_cons (dv 1) dpa_nil)))))), ?_⟩
  · unfold sp_joined at h; split at h <;> first | rfl | exact h.elim
  · intro ds S Q ED h
    unfold sp_joined at h
    split at h
    · rename_i a b
      obtain ⟨ka, kb, h1, h2⟩ := h
      simp only [wSeq, wSlT, wNo, wPart, dSlT, dCat, dListT, wFor, iR1, iR2, iTp, iLs, iNw, iLn, wNext, wIf, wRet, wRetN, wDrop, wAsg, gNm, wPar, wVar, wC, wOp, wUn, wTst, wChain, wAnd, wOr, wNot, wAndV, wOrV, wNotV, wIfE, wNil, wCons, wTup, wLst, wNew, wDer, wVL, wVLL, wALL, wCall, wIsa, wRaise, isB, dI0, dI, dU, dLen, dIx, gSubD, setD, wBM, isL, onL, dPopAt, dAppend, wIxV, wEqVL, wEqL, dEqS, dNeS, startD, List.map_cons, List.map_nil, List.length_cons, List.length_nil, List.cons_append, List.nil_append, List.replicate_succ, List.replicate_zero, List.getElem?_cons_zero, List.getElem?_cons_succ, List.set_cons_zero, List.set_cons_succ, Nat.reduceAdd, Nat.reduceSub, Nat.sub_self, kindD, dIsN, dNotN, isaB, String.reduceBEq, Bool.or_false, Bool.false_or, Bool.true_or, Bool.or_true, Bool.and_true, Bool.and_false, Bool.true_and, Bool.false_and, decide_true, decide_false, DL.isNon, if_true, if_false, Bool.not_true, Bool.not_false, Bool.false_eq_true, reduceIte, true_and, and_true, sp_need_both, sp_join]
      refine ⟨ka, kb, ?_⟩
      cases h3 : okB a b with
      | false => exact ⟨S, Le.refl _, h2 h3⟩
      | true =>
        obtain ⟨as, bs, rfl, rfl, l1, l2, _⟩ := okB_e h3
        exact ⟨as, bs, rfl, by omega, S, Le.refl _, h1 h3 as bs rfl rfl⟩
    · exact h.elim
def cmpW (as bs : List Int) : Str := if as = bs then "same" else if leI as bs = true then "less" else if leI bs as = true then "more" else "apart"
def sp_compared : SpD := fun ds S Q E => match ds with | [a, b] => kOks S a ∧ kOks S b ∧ (okB a b = true → ∀ as bs : List Int, a = .tup (as.map D.int) → b = .tup (bs.map D.int) → Q (.str (cmpW as bs)) S) ∧ (okB a b = false → E ⟨"BadToken", none⟩ S) | _ => False
theorem pyr_ti (S : Store) (as : List Int) : PyR S (.tuple (as.map .int)) (.tup (as.map D.int)) := ⟨_, rfl, pyrs_ints⟩
theorem sc_compared : FnScope ["one", "other"] ["one", "other"] (defScope s_compared) := ⟨rfl, rfl, rfl, by decide +kernel, rfl, by decide +kernel, by decide +kernel⟩
theorem ok_compared (G : Def K mg "compared" s_compared ["one", "other"]) (T : Txt K mg) (c_need_both : Cal P w K mg base "need_both" 4 ["one", "other"] sp_need_both) (c_is_within : Cal P w K mg base "is_within" 1 ["one", "other"] sp_is_within) : Cal P w K mg base "compared" 5 ["one", "other"] sp_compared := by
  refine G.calD sc_compared (fun ds S Q E h => ?_) fun f cdv A outer s H E hr => ⟨_, (dpss_cons (dps_expr (dpe_cal c_need_both hr (by first | decide | omega) rfl (takes_of rfl rfl rfl rfl) (dpa_cons (dv 0) (dpa_cons (dv 1) dpa_nil))))
    (dpss_cons (dps_if (dpt_cmp (op_eqD (hr.units)) lr_eq (dv 0) (dv 1) (nomark _)) (dpss_one (dps_ret dpe_str)) dpss_nil)
    (dpss_cons (dps_if (dpt_val (dpe_cal c_is_within hr (by first | decide | omega) rfl (takes_of rfl rfl rfl rfl) (dpa_cons (dv 0) (dpa_cons (dv 1) dpa_nil)))) (dpss_one (dps_ret dpe_str)) dpss_nil)
    (dpss_one (dps_ret (dpe_ifE (dpt_val (dpe_cal c_is_within hr (by first | decide | omega) rfl (takes_of rfl rfl rfl rfl) (dpa_cons (dv 1) (dpa_cons (dv 0) dpa_nil)))) dpe_str dpe_str)))))), ?_⟩
  · unfold sp_compared at h; split at h <;> first | rfl | exact h.elim
  · intro ds S Q ED h
    unfold sp_compared at h
    split at h
    · rename_i a b
      obtain ⟨ka, kb, h1, h2⟩ := h
      simp only [wSeq, wSlT, wNo, wPart, dSlT, dCat, dListT, wFor, iR1, iR2, iTp, iLs, iNw, iLn, wNext, wIf, wRet, wRetN, wDrop, wAsg, gNm, wPar, wVar, wC, wOp, wUn, wTst, wChain, wAnd, wOr, wNot, wAndV, wOrV, wNotV, wIfE, wNil, wCons, wTup, wLst, wNew, wDer, wVL, wVLL, wALL, wCall, wIsa, wRaise, isB, dI0, dI, dU, dLen, dIx, gSubD, setD, wBM, isL, onL, dPopAt, dAppend, wIxV, wEqVL, wEqL, dEqS, dNeS, startD, List.map_cons, List.map_nil, List.length_cons, List.length_nil, List.cons_append, List.nil_append, List.replicate_succ, List.replicate_zero, List.getElem?_cons_zero, List.getElem?_cons_succ, List.set_cons_zero, List.set_cons_succ, Nat.reduceAdd, Nat.reduceSub, Nat.sub_self, kindD, dIsN, dNotN, isaB, String.reduceBEq, Bool.or_false, Bool.false_or, Bool.true_or, Bool.or_true, Bool.and_true, Bool.and_false, Bool.true_and, Bool.false_and, decide_true, decide_false, DL.isNon, if_true, if_false, Bool.not_true, Bool.not_false, Bool.false_eq_true, reduceIte, true_and, and_true, sp_need_both, sp_is_within, dEq]
      refine ⟨ka, kb, ?_⟩
      cases h3 : okB a b with
      | false => exact ⟨S, Le.refl _, h2 h3⟩
      | true =>
        obtain ⟨as, bs, rfl, rfl, l1, l2, l3, _⟩ := okB_e h3
        have h1 := h1 h3 as bs rfl rfl
        refine ⟨_, _, pyr_ti S as, pyr_ti S bs, shaped_ti as, shaped_ti bs, ?_⟩
        have ee : (PyData.tuple (as.map .int)).eqv (.tuple (bs.map .int)) = decide (as = bs) := by
          simp only [PyData.eqv]
          exact eqvAll_ints as bs
        rw [ee]
        unfold cmpW at h1
        by_cases e1 : as = bs
        · rw [if_pos e1] at h1
          rw [if_pos (by simp [e1])]
          exact ⟨S, Le.refl _, h1⟩
        · rw [if_neg e1] at h1
          rw [if_neg (by simp [e1])]
          refine ⟨as, bs, rfl, by omega, ?_⟩
          by_cases e2 : leI as bs = true
          · rw [if_pos e2] at h1 ⊢
            exact ⟨S, Le.refl _, h1⟩
          · rw [if_neg e2] at h1 ⊢
            refine ⟨bs, as, rfl, by omega, ?_⟩
            by_cases e3 : leI bs as = true
            · rw [if_pos e3] at h1 ⊢
              exact ⟨S, Le.refl _, h1⟩
            · rw [if_neg e3] at h1 ⊢
              exact ⟨S, Le.refl _, h1⟩
    · exact h.elim
end
section
variable {P : Program} {w : World} {K : PySem.W.Frag} {mg : Str → Option Value} {base : Heap}
--HINT _law_within | _law_one[_law_k] > _law_other[_law_k] | x
def sp_lwithin : SpD := fun ds S Q _ => ∃ as bs : List Int, ds = [.tup (as.map D.int), .tup (bs.map D.int)] ∧ as.length = bs.length ∧ as.length ≤ 1000 ∧ Q (.bl (leI as bs)) S
theorem sc__law_within : FnScope ["_law_one", "_law_other", "_law_k"] ["_law_one", "_law_other"] (defScope s__law_within) := ⟨rfl, rfl, rfl, by decide +kernel, rfl, by decide +kernel, by decide +kernel⟩
theorem ok_lwithin (G : Def K mg "_law_within" s__law_within ["_law_one", "_law_other"]) (T : Txt K mg) : Cal P w K mg base "_law_within" 1 ["_law_one", "_law_other"] sp_lwithin := by
  refine G.calD sc__law_within (fun ds S Q E h => ?_) fun f cdv A outer s H E hr => ⟨_, (dpss_one (dps_ret (dpe_eqL (hr.units) (dpl_lc (own := [("_law_k", 2)]) rfl sc__law_within.nd (dpi_r1 rfl T.b_range (dpa_cons (dpe_ba call_len lc_len rfl T.b_len bb_len (dpa_cons (dv 0) dpa_nil)) dpa_nil)) (blkOk_by (own := [("_law_k", 2)]) (by rfl)) (fun _ _ _ _ _ => (dpg_name (vs := [2]) (i := 2) sc__law_within.nd rfl (by first | exact Or.inl rfl | exact Or.inr rfl) (by decide))) (fun _ _ _ _ _ => (dpts_one (dpt_cmp op_gt lr_cmp (dpe_ix (dv 0) (dv 2) (fun _ _ => rfl)) (dpe_ix (dv 1) (dv 2) (fun _ _ => rfl)) (nomark _)))) (fun _ _ _ _ _ => (dv 2))) (dpl_lst dpa_nil) (nomark _)))), ?_⟩
  · obtain ⟨as, bs, rfl, _⟩ := h; rfl
  · rintro ds S Q ED ⟨as, bs, rfl, hl, hb, h⟩
    simp only [wSeq, wSlT, wNo, wPart, dSlT, dCat, dListT, wFor, iR1, iR2, iTp, iLs, iNw, iLn, wNext, wIf, wRet, wRetN, wDrop, wAsg, gNm, wPar, wVar, wC, wOp, wUn, wTst, wChain, wAnd, wOr, wNot, wAndV, wOrV, wNotV, wIfE, wNil, wCons, wTup, wLst, wNew, wDer, wVL, wVLL, wALL, wCall, wIsa, wRaise, isB, dI0, dI, dU, dLen, dIx, gSubD, setD, wBM, isL, onL, dPopAt, dAppend, wIxV, wEqVL, wEqL, dEqS, dNeS, startD, List.map_cons, List.map_nil, List.length_cons, List.length_nil, List.cons_append, List.nil_append, List.replicate_succ, List.replicate_zero, List.getElem?_cons_zero, List.getElem?_cons_succ, List.set_cons_zero, List.set_cons_succ, Nat.reduceAdd, Nat.reduceSub, Nat.sub_self, kindD, dIsN, dNotN, isaB, String.reduceBEq, Bool.or_false, Bool.false_or, Bool.true_or, Bool.or_true, Bool.and_true, Bool.and_false, Bool.true_and, Bool.false_and, decide_true, decide_false, DL.isNon, if_true, if_false, Bool.not_true, Bool.not_false, Bool.false_eq_true, reduceIte, true_and, and_true, wLc]
    refine ⟨by simp; omega, ?_⟩
    have h1000 : 1000 ≤ sizeLine := by decide
    have gt : ∀ k : Nat, k < as.length → atI (as.map D.int) (k : Int) = some (.int (as.getD k 0)) ∧ atI (bs.map D.int) (k : Int) = some (.int (bs.getD k 0)) := fun k hk => by
      rw [atI_ofN, atI_ofN, List.getElem?_map, List.getElem?_map, List.getElem?_eq_getElem hk, List.getElem?_eq_getElem (show k < bs.length by omega)]
      exact ⟨by simp [hk], by simp [show k < bs.length by omega]⟩
    refine lcW_filter (fun d => match d with | .int k => decide (bs.getD k.toNat 0 < as.getD k.toNat 0) | _ => false) id True.intro (by simp [rngD]; omega) (fun d hd Kt Z k1 k2 => ?_) ?_
    · obtain ⟨k, hk, rfl⟩ := List.mem_map.mp hd
      have hk : k < as.length := by simpa using hk
      obtain ⟨g1, g2⟩ := gt k hk
      simp only [wSeq, wSlT, wNo, wPart, dSlT, dCat, dListT, wFor, iR1, iR2, iTp, iLs, iNw, iLn, wNext, wIf, wRet, wRetN, wDrop, wAsg, gNm, wPar, wVar, wC, wOp, wUn, wTst, wChain, wAnd, wOr, wNot, wAndV, wOrV, wNotV, wIfE, wNil, wCons, wTup, wLst, wNew, wDer, wVL, wVLL, wALL, wCall, wIsa, wRaise, isB, dI0, dI, dU, dLen, dIx, gSubD, setD, wBM, isL, onL, dPopAt, dAppend, wIxV, wEqVL, wEqL, dEqS, dNeS, startD, List.map_cons, List.map_nil, List.length_cons, List.length_nil, List.cons_append, List.nil_append, List.replicate_succ, List.replicate_zero, List.getElem?_cons_zero, List.getElem?_cons_succ, List.set_cons_zero, List.set_cons_succ, Nat.reduceAdd, Nat.reduceSub, Nat.sub_self, kindD, dIsN, dNotN, isaB, String.reduceBEq, Bool.or_false, Bool.false_or, Bool.true_or, Bool.or_true, Bool.and_true, Bool.and_false, Bool.true_and, Bool.false_and, decide_true, decide_false, DL.isNon, if_true, if_false, Bool.not_true, Bool.not_false, Bool.false_eq_true, reduceIte, true_and, and_true, wipeD, Int.zero_add, g1, g2]
      simp only [Int.zero_add, Int.toNat_natCast, id] at k1 k2
      by_cases hlt : bs.getD k 0 < as.getD k 0
      · rw [if_pos (by simpa using hlt)]
        exact k1 (by simpa using hlt)
      · rw [if_neg (by simpa using hlt)]
        exact k2 (by simpa using hlt)
    · obtain ⟨ns, e1, e2⟩ := filter_rng (fun d => match d with | .int k => decide (bs.getD k.toNat 0 < as.getD k.toNat 0) | _ => false) 0 ((as.map D.int).length : Int).toNat
      rw [e1, List.map_id, List.nil_append]
      refine ⟨by decide, ns.map .int, [], pyrs_ints, rfl, shaped_li ns, shaped_li [], S, Le.refl _, ?_⟩
      rw [eqvAll_nil]
      have e3 : decide (ns = []) = leI as bs := by
        rw [Bool.eq_iff_iff, decide_eq_true_eq, e2]
        unfold leI
        rw [List.all_eq_true]
        simp only [List.length_map, Int.toNat_natCast, Int.zero_add, decide_eq_false_iff_not, decide_eq_true_eq]
        constructor
        · intro hh p hp
          obtain ⟨i, hi⟩ := List.getElem?_of_mem hp
          obtain ⟨hi1, hi2⟩ := List.getElem?_eq_some_iff.mp hi
          rw [List.length_zip] at hi1
          rw [List.getElem_zip] at hi2
          have := hh i (by omega)
          rw [← hi2]
          simp only [List.getD_eq_getElem?_getD, List.getElem?_eq_getElem (show i < as.length by omega), List.getElem?_eq_getElem (show i < bs.length by omega), Option.getD_some] at this
          dsimp only
          omega
        · intro hh i hi
          have := hh (as[i], bs[i]) (by
            have : (as.zip bs)[i]'(by rw [List.length_zip]; omega) = (as[i], bs[i]) := List.getElem_zip
            rw [← this]
            exact List.getElem_mem _)
          simp only [List.getD_eq_getElem?_getD, List.getElem?_eq_getElem hi, List.getElem?_eq_getElem (show i < bs.length by omega), Option.getD_some]
          dsimp only at this
          omega
      rw [e3]
      exact h
--HINT _law_join | x | x
def sp_ljoin : SpD := fun ds S Q _ => ∃ as bs : List Int, ds = [.tup (as.map D.int), .tup (bs.map D.int)] ∧ as.length = bs.length ∧ as.length ≤ 1000 ∧ Q (.tup ((joinI as bs).map D.int)) S
theorem sc__law_join : FnScope ["_law_one", "_law_other", "_law_k"] ["_law_one", "_law_other"] (defScope s__law_join) := ⟨rfl, rfl, rfl, by decide +kernel, rfl, by decide +kernel, by decide +kernel⟩
theorem ok_ljoin (G : Def K mg "_law_join" s__law_join ["_law_one", "_law_other"]) (T : Txt K mg) : Cal P w K mg base "_law_join" 1 ["_law_one", "_law_other"] sp_ljoin := by
  refine G.calD sc__law_join (fun ds S Q E h => ?_) fun f cdv A outer s H E hr => ⟨_, (dpss_one (dps_ret (dpe_tv call_tuple_of lc_tup rfl T.b_tuple bb_tuple (dpv_new (dpl_lc (own := [("_law_k", 2)]) rfl sc__law_join.nd (dpi_r1 rfl T.b_range (dpa_cons (dpe_ba call_len lc_len rfl T.b_len bb_len (dpa_cons (dv 0) dpa_nil)) dpa_nil)) (blkOk_by (own := [("_law_k", 2)]) (by rfl)) (fun _ _ _ _ _ => (dpg_name (vs := [2]) (i := 2) sc__law_join.nd rfl (by first | exact Or.inl rfl | exact Or.inr rfl) (by decide))) (fun _ _ _ _ _ => dpts_nil) (fun _ _ _ _ _ => (dpe_ba (call_max2 rfl) lc_max2 rfl T.b_max bb_max (dpa_cons (dpe_ix (dv 0) (dv 2) (fun _ _ => rfl)) (dpa_cons (dpe_ix (dv 1) (dv 2) (fun _ _ => rfl)) dpa_nil))))))))), ?_⟩
  · obtain ⟨as, bs, rfl, _⟩ := h; rfl
  · rintro ds S Q ED ⟨as, bs, rfl, hl, hb, h⟩
    simp only [wSeq, wSlT, wNo, wPart, dSlT, dCat, dListT, wFor, iR1, iR2, iTp, iLs, iNw, iLn, wNext, wIf, wRet, wRetN, wDrop, wAsg, gNm, wPar, wVar, wC, wOp, wUn, wTst, wChain, wAnd, wOr, wNot, wAndV, wOrV, wNotV, wIfE, wNil, wCons, wTup, wLst, wNew, wDer, wVL, wVLL, wALL, wCall, wIsa, wRaise, isB, dI0, dI, dU, dLen, dIx, gSubD, setD, wBM, isL, onL, dPopAt, dAppend, wIxV, wEqVL, wEqL, dEqS, dNeS, startD, List.map_cons, List.map_nil, List.length_cons, List.length_nil, List.cons_append, List.nil_append, List.replicate_succ, List.replicate_zero, List.getElem?_cons_zero, List.getElem?_cons_succ, List.set_cons_zero, List.set_cons_succ, Nat.reduceAdd, Nat.reduceSub, Nat.sub_self, kindD, dIsN, dNotN, isaB, String.reduceBEq, Bool.or_false, Bool.false_or, Bool.true_or, Bool.or_true, Bool.and_true, Bool.and_false, Bool.true_and, Bool.false_and, decide_true, decide_false, DL.isNon, if_true, if_false, Bool.not_true, Bool.not_false, Bool.false_eq_true, reduceIte, true_and, and_true, wLc]
    refine ⟨by simp; omega, ?_⟩
    have h1000 : 1000 ≤ sizeLine := by decide
    refine lcW_map (fun d => match d with | .int k => .int (max (as.getD k.toNat 0) (bs.getD k.toNat 0)) | d => d) True.intro (by simp [rngD]; omega) (fun d hd Kt Z k1 => ?_) ?_
    · obtain ⟨k, hk, rfl⟩ := List.mem_map.mp hd
      have hk : k < as.length := by simpa using hk
      simp only [wSeq, wSlT, wNo, wPart, dSlT, dCat, dListT, wFor, iR1, iR2, iTp, iLs, iNw, iLn, wNext, wIf, wRet, wRetN, wDrop, wAsg, gNm, wPar, wVar, wC, wOp, wUn, wTst, wChain, wAnd, wOr, wNot, wAndV, wOrV, wNotV, wIfE, wNil, wCons, wTup, wLst, wNew, wDer, wVL, wVLL, wALL, wCall, wIsa, wRaise, isB, dI0, dI, dU, dLen, dIx, gSubD, setD, wBM, isL, onL, dPopAt, dAppend, wIxV, wEqVL, wEqL, dEqS, dNeS, startD, List.map_cons, List.map_nil, List.length_cons, List.length_nil, List.cons_append, List.nil_append, List.replicate_succ, List.replicate_zero, List.getElem?_cons_zero, List.getElem?_cons_succ, List.set_cons_zero, List.set_cons_succ, Nat.reduceAdd, Nat.reduceSub, Nat.sub_self, kindD, dIsN, dNotN, isaB, String.reduceBEq, Bool.or_false, Bool.false_or, Bool.true_or, Bool.or_true, Bool.and_true, Bool.and_false, Bool.true_and, Bool.false_and, decide_true, decide_false, DL.isNon, if_true, if_false, Bool.not_true, Bool.not_false, Bool.false_eq_true, reduceIte, true_and, and_true, wipeD, Int.zero_add, wYes]
      rw [atI_ofN, atI_ofN, List.getElem?_map, List.getElem?_map, List.getElem?_eq_getElem hk, List.getElem?_eq_getElem (show k < bs.length by omega)]
      simp only [wSeq, wSlT, wNo, wPart, dSlT, dCat, dListT, wFor, iR1, iR2, iTp, iLs, iNw, iLn, wNext, wIf, wRet, wRetN, wDrop, wAsg, gNm, wPar, wVar, wC, wOp, wUn, wTst, wChain, wAnd, wOr, wNot, wAndV, wOrV, wNotV, wIfE, wNil, wCons, wTup, wLst, wNew, wDer, wVL, wVLL, wALL, wCall, wIsa, wRaise, isB, dI0, dI, dU, dLen, dIx, gSubD, setD, wBM, isL, onL, dPopAt, dAppend, wIxV, wEqVL, wEqL, dEqS, dNeS, startD, List.map_cons, List.map_nil, List.length_cons, List.length_nil, List.cons_append, List.nil_append, List.replicate_succ, List.replicate_zero, List.getElem?_cons_zero, List.getElem?_cons_succ, List.set_cons_zero, List.set_cons_succ, Nat.reduceAdd, Nat.reduceSub, Nat.sub_self, kindD, dIsN, dNotN, isaB, String.reduceBEq, Bool.or_false, Bool.false_or, Bool.true_or, Bool.or_true, Bool.and_true, Bool.and_false, Bool.true_and, Bool.false_and, decide_true, decide_false, DL.isNon, if_true, if_false, Bool.not_true, Bool.not_false, Bool.false_eq_true, reduceIte, true_and, and_true, dMax2, Option.map_some]
      simp only [Int.zero_add, Int.toNat_natCast, List.getD_eq_getElem?_getD, List.getElem?_eq_getElem hk, List.getElem?_eq_getElem (show k < bs.length by omega), Option.getD_some] at k1
      have e : (if bs[k] > as[k] then bs[k] else as[k]) = max as[k] bs[k] := by split <;> omega
      rw [e]
      exact k1
    · simp only [wSeq, wSlT, wNo, wPart, dSlT, dCat, dListT, wFor, iR1, iR2, iTp, iLs, iNw, iLn, wNext, wIf, wRet, wRetN, wDrop, wAsg, gNm, wPar, wVar, wC, wOp, wUn, wTst, wChain, wAnd, wOr, wNot, wAndV, wOrV, wNotV, wIfE, wNil, wCons, wTup, wLst, wNew, wDer, wVL, wVLL, wALL, wCall, wIsa, wRaise, isB, dI0, dI, dU, dLen, dIx, gSubD, setD, wBM, isL, onL, dPopAt, dAppend, wIxV, wEqVL, wEqL, dEqS, dNeS, startD, List.map_cons, List.map_nil, List.length_cons, List.length_nil, List.cons_append, List.nil_append, List.replicate_succ, List.replicate_zero, List.getElem?_cons_zero, List.getElem?_cons_succ, List.set_cons_zero, List.set_cons_succ, Nat.reduceAdd, Nat.reduceSub, Nat.sub_self, kindD, dIsN, dNotN, isaB, String.reduceBEq, Bool.or_false, Bool.false_or, Bool.true_or, Bool.or_true, Bool.and_true, Bool.and_false, Bool.true_and, Bool.false_and, decide_true, decide_false, DL.isNon, if_true, if_false, Bool.not_true, Bool.not_false, Bool.false_eq_true, reduceIte, true_and, and_true, dTupOf]
      refine ⟨S, Le.refl _, ?_⟩
      have e : List.map (fun d => match d with | .int k => .int (max (as.getD k.toNat 0) (bs.getD k.toNat 0)) | d => d) (rngD 0 ((as.map D.int).length : Int).toNat) = (joinI as bs).map D.int := by
        unfold rngD joinI
        rw [List.map_map]
        apply List.ext_getElem
        · simp; omega
        · intro i h1 h2
          have hi : i < as.length := by simpa using h1
          simp [List.getElem_zipWith, hi, show i < bs.length by omega]
      rw [e]
      exact h
def goodT (as : List Int) : Prop := ∀ a ∈ as, 0 ≤ a ∧ a ≤ 999
def sp_ltoken : SpD := fun ds S Q _ => match ds with | [.ref b, .int many] => S b = some .box ∧ 0 ≤ many ∧ many ≤ 1000 ∧ ∀ as : List Int, (as.length : Int) = many → goodT as → Q (.tup (as.map D.int)) S | _ => False
theorem ints_of {ys : List D} {P : Int → Prop} (h : ∀ y ∈ ys, ∃ a, y = .int a ∧ P a) : ∃ as : List Int, ys = as.map D.int ∧ ∀ a ∈ as, P a := by
  induction ys with
  | nil => exact ⟨[], rfl, fun a ha => by cases ha⟩
  | cons y ys ih =>
    obtain ⟨a, rfl, pa⟩ := h y (by simp)
    obtain ⟨as, e, pas⟩ := ih fun z hz => h z (by simp [hz])
    refine ⟨a :: as, by rw [e]; rfl, fun z hz => ?_⟩
    rcases List.mem_cons.mp hz with q | hz
    · rw [q]; exact pa
    · exact pas z hz
theorem sc__law_token : FnScope ["_law_box", "_law_many", "_law_k"] ["_law_box", "_law_many"] (defScope s__law_token) := ⟨rfl, rfl, rfl, by decide +kernel, rfl, by decide +kernel, by decide +kernel⟩
theorem ok_ltoken (G : Def K mg "_law_token" s__law_token ["_law_box", "_law_many"]) (T : Txt K mg) (c__law_take : Cal P w K mg base "_law_take" 1 ["_law_box", "_law_many"] sp_take) : Cal P w K mg base "_law_token" 2 ["_law_box", "_law_many"] sp_ltoken := by
  refine G.calD sc__law_token (fun ds S Q E h => ?_) fun f cdv A outer s H E hr => ⟨_, (dpss_one (dps_ret (dpe_tv call_tuple_of lc_tup rfl T.b_tuple bb_tuple (dpv_new (dpl_lc (own := [("_law_k", 2)]) rfl sc__law_token.nd (dpi_r1 rfl T.b_range (dpa_cons (dv 1) dpa_nil)) (blkOk_by (own := [("_law_k", 2)]) (by rfl)) (fun _ _ _ _ _ => (dpg_name (vs := [2]) (i := 2) sc__law_token.nd rfl (by first | exact Or.inl rfl | exact Or.inr rfl) (by decide))) (fun _ _ _ _ _ => dpts_nil) (fun _ _ _ _ _ => (dpe_cal c__law_take hr (by first | decide | omega) rfl takes0 (dpa_cons (dv 0) (dpa_cons (dpe_ixV (dpl_lst (dpa_cons dpe_int (dpa_cons dpe_int dpa_nil))) (dpe_cal c__law_take hr (by first | decide | omega) rfl takes0 (dpa_cons (dv 0) (dpa_cons dpe_int dpa_nil))) (fun _ _ => rfl)) dpa_nil))))))))), ?_⟩
  · unfold sp_ltoken at h; split at h <;> first | rfl | exact h.elim
  · intro ds S Q ED h
    unfold sp_ltoken at h
    split at h
    · rename_i b many
      obtain ⟨eb, m0, m1, h⟩ := h
      simp only [wSeq, wSlT, wNo, wPart, dSlT, dCat, dListT, wFor, iR1, iR2, iTp, iLs, iNw, iLn, wNext, wIf, wRet, wRetN, wDrop, wAsg, gNm, wPar, wVar, wC, wOp, wUn, wTst, wChain, wAnd, wOr, wNot, wAndV, wOrV, wNotV, wIfE, wNil, wCons, wTup, wLst, wNew, wDer, wVL, wVLL, wALL, wCall, wIsa, wRaise, isB, dI0, dI, dU, dLen, dIx, gSubD, setD, wBM, isL, onL, dPopAt, dAppend, wIxV, wEqVL, wEqL, dEqS, dNeS, startD, List.map_cons, List.map_nil, List.length_cons, List.length_nil, List.cons_append, List.nil_append, List.replicate_succ, List.replicate_zero, List.getElem?_cons_zero, List.getElem?_cons_succ, List.set_cons_zero, List.set_cons_succ, Nat.reduceAdd, Nat.reduceSub, Nat.sub_self, kindD, dIsN, dNotN, isaB, String.reduceBEq, Bool.or_false, Bool.false_or, Bool.true_or, Bool.or_true, Bool.and_true, Bool.and_false, Bool.true_and, Bool.false_and, decide_true, decide_false, DL.isNon, if_true, if_false, Bool.not_true, Bool.not_false, Bool.false_eq_true, reduceIte, true_and, and_true, wLc]
      refine ⟨by omega, ?_⟩
      have h1000 : 1000 ≤ sizeLine := by decide
      refine lcW_rel (fun _ y => ∃ a, y = .int a ∧ 0 ≤ a ∧ a ≤ 999) True.intro (by simp [rngD]; omega) (fun d hd Kt Z k => ?_) fun ys hn hr => ?_
      · simp only [wSeq, wSlT, wNo, wPart, dSlT, dCat, dListT, wFor, iR1, iR2, iTp, iLs, iNw, iLn, wNext, wIf, wRet, wRetN, wDrop, wAsg, gNm, wPar, wVar, wC, wOp, wUn, wTst, wChain, wAnd, wOr, wNot, wAndV, wOrV, wNotV, wIfE, wNil, wCons, wTup, wLst, wNew, wDer, wVL, wVLL, wALL, wCall, wIsa, wRaise, isB, dI0, dI, dU, dLen, dIx, gSubD, setD, wBM, isL, onL, dPopAt, dAppend, wIxV, wEqVL, wEqL, dEqS, dNeS, startD, List.map_cons, List.map_nil, List.length_cons, List.length_nil, List.cons_append, List.nil_append, List.replicate_succ, List.replicate_zero, List.getElem?_cons_zero, List.getElem?_cons_succ, List.set_cons_zero, List.set_cons_succ, Nat.reduceAdd, Nat.reduceSub, Nat.sub_self, kindD, dIsN, dNotN, isaB, String.reduceBEq, Bool.or_false, Bool.false_or, Bool.true_or, Bool.or_true, Bool.and_true, Bool.and_false, Bool.true_and, Bool.false_and, decide_true, decide_false, DL.isNon, if_true, if_false, Bool.not_true, Bool.not_false, Bool.false_eq_true, reduceIte, true_and, and_true, wipeD, wYes, sp_take]
        refine ⟨by decide, eb, ⟨by decide, by decide⟩, fun j j0 j1 => ?_⟩
        have hj : j = 0 ∨ j = 1 := by omega
        rcases hj with rfl | rfl
        · simp only [wSeq, wSlT, wNo, wPart, dSlT, dCat, dListT, wFor, iR1, iR2, iTp, iLs, iNw, iLn, wNext, wIf, wRet, wRetN, wDrop, wAsg, gNm, wPar, wVar, wC, wOp, wUn, wTst, wChain, wAnd, wOr, wNot, wAndV, wOrV, wNotV, wIfE, wNil, wCons, wTup, wLst, wNew, wDer, wVL, wVLL, wALL, wCall, wIsa, wRaise, isB, dI0, dI, dU, dLen, dIx, gSubD, setD, wBM, isL, onL, dPopAt, dAppend, wIxV, wEqVL, wEqL, dEqS, dNeS, startD, List.map_cons, List.map_nil, List.length_cons, List.length_nil, List.cons_append, List.nil_append, List.replicate_succ, List.replicate_zero, List.getElem?_cons_zero, List.getElem?_cons_succ, List.set_cons_zero, List.set_cons_succ, Nat.reduceAdd, Nat.reduceSub, Nat.sub_self, kindD, dIsN, dNotN, isaB, String.reduceBEq, Bool.or_false, Bool.false_or, Bool.true_or, Bool.or_true, Bool.and_true, Bool.and_false, Bool.true_and, Bool.false_and, decide_true, decide_false, DL.isNon, if_true, if_false, Bool.not_true, Bool.not_false, Bool.false_eq_true, reduceIte, true_and, and_true, atI0, sp_take]
          exact ⟨eb, ⟨by decide, by decide⟩, fun a a0 a1 => k _ ⟨a, rfl, a0, by omega⟩⟩
        · simp only [wSeq, wSlT, wNo, wPart, dSlT, dCat, dListT, wFor, iR1, iR2, iTp, iLs, iNw, iLn, wNext, wIf, wRet, wRetN, wDrop, wAsg, gNm, wPar, wVar, wC, wOp, wUn, wTst, wChain, wAnd, wOr, wNot, wAndV, wOrV, wNotV, wIfE, wNil, wCons, wTup, wLst, wNew, wDer, wVL, wVLL, wALL, wCall, wIsa, wRaise, isB, dI0, dI, dU, dLen, dIx, gSubD, setD, wBM, isL, onL, dPopAt, dAppend, wIxV, wEqVL, wEqL, dEqS, dNeS, startD, List.map_cons, List.map_nil, List.length_cons, List.length_nil, List.cons_append, List.nil_append, List.replicate_succ, List.replicate_zero, List.getElem?_cons_zero, List.getElem?_cons_succ, List.set_cons_zero, List.set_cons_succ, Nat.reduceAdd, Nat.reduceSub, Nat.sub_self, kindD, dIsN, dNotN, isaB, String.reduceBEq, Bool.or_false, Bool.false_or, Bool.true_or, Bool.or_true, Bool.and_true, Bool.and_false, Bool.true_and, Bool.false_and, decide_true, decide_false, DL.isNon, if_true, if_false, Bool.not_true, Bool.not_false, Bool.false_eq_true, reduceIte, true_and, and_true, atI1, sp_take]
          exact ⟨eb, ⟨by decide, by decide⟩, fun a a0 a1 => k _ ⟨a, rfl, a0, by omega⟩⟩
      · simp only [wSeq, wSlT, wNo, wPart, dSlT, dCat, dListT, wFor, iR1, iR2, iTp, iLs, iNw, iLn, wNext, wIf, wRet, wRetN, wDrop, wAsg, gNm, wPar, wVar, wC, wOp, wUn, wTst, wChain, wAnd, wOr, wNot, wAndV, wOrV, wNotV, wIfE, wNil, wCons, wTup, wLst, wNew, wDer, wVL, wVLL, wALL, wCall, wIsa, wRaise, isB, dI0, dI, dU, dLen, dIx, gSubD, setD, wBM, isL, onL, dPopAt, dAppend, wIxV, wEqVL, wEqL, dEqS, dNeS, startD, List.map_cons, List.map_nil, List.length_cons, List.length_nil, List.cons_append, List.nil_append, List.replicate_succ, List.replicate_zero, List.getElem?_cons_zero, List.getElem?_cons_succ, List.set_cons_zero, List.set_cons_succ, Nat.reduceAdd, Nat.reduceSub, Nat.sub_self, kindD, dIsN, dNotN, isaB, String.reduceBEq, Bool.or_false, Bool.false_or, Bool.true_or, Bool.or_true, Bool.and_true, Bool.and_false, Bool.true_and, Bool.false_and, decide_true, decide_false, DL.isNon, if_true, if_false, Bool.not_true, Bool.not_false, Bool.false_eq_true, reduceIte, true_and, and_true, dTupOf]
        refine ⟨S, Le.refl _, ?_⟩
        obtain ⟨as, e, ha⟩ := ints_of (ys := ys) (P := fun a => 0 ≤ a ∧ a ≤ 999) fun y hy => by
          obtain ⟨i, hi⟩ := List.getElem?_of_mem hy
          have hl : i < (rngD 0 many.toNat).length := by rw [← hn]; exact (List.getElem?_eq_some_iff.mp hi).1
          exact hr i _ y (List.getElem?_eq_getElem hl) hi
        subst e
        refine h as ?_ ha
        simp [rngD] at hn
        omega
    · exact h.elim
theorem okB_l {as : List Int} {d : D} (h : isTokD d as.length = false) : okB (.tup (as.map D.int)) d = false := by
  simp [okB, h]
theorem okB_r {as : List Int} {xs : List D} (h : isTokD (.tup xs) xs.length = false ∨ xs.length ≠ as.length) : okB (.tup xs) (.tup (as.map D.int)) = false := by
  rcases h with h | h
  · simp [okB, h]
  · have e : isTokD (.tup (as.map D.int)) xs.length = false := by
      simp only [isTokD, List.length_map, Bool.and_eq_false_iff, decide_eq_false_iff_not]
      left
      omega
    simp [okB, e]
theorem isTokD_bad {xs : List D} {x : D} {n : Int} (h : x ∈ xs) (hx : isNumD x 0 999 = false) : isTokD (.tup xs) n = false := by
  simp only [isTokD, Bool.and_eq_false_iff, List.all_eq_false]
  right
  exact ⟨x, h, by simp [hx]⟩
theorem isTokD_len {xs : List D} {n : Int} (h : (xs.length : Int) ≠ n) : isTokD (.tup xs) n = false := by
  simp [isTokD, h]
theorem kOks_tup {S : Store} {xs : List D} (hl : xs.length ≤ sizeLine) (h : ∀ x ∈ xs, kOk S x) : kOks S (.tup xs) := ⟨by simp [kOk, kindD], fun ys e => by cases e; exact ⟨hl, h⟩⟩
theorem kOk_ints {S : Store} {as : List Int} : ∀ x ∈ as.map D.int, kOk S x := fun x hx => by
  obtain ⟨a, _, rfl⟩ := List.mem_map.mp hx
  simp [kOk, kindD]
theorem noS_ints (as : List Int) : noSs (as.map D.int) = true := by
  induction as with
  | nil => rfl
  | cons a as ih => simpa [noSs, noS] using ih
theorem noSs_app : ∀ {xs ys : List D}, noSs xs = true → noSs ys = true → noSs (xs ++ ys) = true
  | [], _, _, h => h
  | x :: xs, ys, h, g => by
    have h' : (noS x && noSs xs) = true := h
    rw [Bool.and_eq_true] at h'
    show (noS x && noSs (xs ++ ys)) = true
    rw [Bool.and_eq_true]
    exact ⟨h'.1, noSs_app h'.2 g⟩
/-- odd: no token of its kind -/
def oddS (S : Store) (as : List Int) (d : D) (S' : Store) : Prop := (S' = S ∨ ∃ l ds, S l = none ∧ noSs ds = true ∧ S' = sup S l (.lst ds)) ∧ kOks S' d ∧ noS d = true ∧ okB (.tup (as.map D.int)) d = false ∧ okB d (.tup (as.map D.int)) = false
def sp_lodd : SpD := fun ds S Q _ => match ds with | [.ref b, d0] => ∃ as : List Int, d0 = .tup (as.map D.int) ∧ S b = some .box ∧ 2 ≤ as.length ∧ as.length ≤ 5 ∧ goodT as ∧ ∀ d S', oddS S as d S' → Q d S' | _ => False
--HINT _law_odd | _law_one + _law_one | tup
theorem sc__law_odd : FnScope ["_law_box", "_law_one", "_law_far", "_law_k", "_law_bad", "_law_some"] ["_law_box", "_law_one"] (defScope s__law_odd) := ⟨rfl, rfl, rfl, by decide +kernel, rfl, by decide +kernel, by decide +kernel⟩
theorem ok_lodd (G : Def K mg "_law_odd" s__law_odd ["_law_box", "_law_one"]) (T : Txt K mg) (c__law_take : Cal P w K mg base "_law_take" 1 ["_law_box", "_law_many"] sp_take) : Cal P w K mg base "_law_odd" 2 ["_law_box", "_law_one"] sp_lodd := by
  refine G.calD sc__law_odd (fun ds S Q E h => ?_) fun f cdv A outer s H E hr => ⟨_, (dpss_cons (dps_par (i := 2) (j := 3) rfl sc__law_odd.nd rfl rfl (by decide) rfl rfl (dpa_cons (dpe_cal c__law_take hr (by first | decide | omega) rfl (takes_of rfl rfl rfl rfl) (dpa_cons (dv 0) (dpa_cons (dpe_ixV (dpl_lst (dpa_cons dpe_int (dpa_cons (dpe_op op_pow lr_intC dpe_int dpe_int) dpa_nil))) (dpe_cal c__law_take hr (by first | decide | omega) rfl (takes_of rfl rfl rfl rfl) (dpa_cons (dv 0) (dpa_cons dpe_int dpa_nil))) (fun _ _ => rfl)) dpa_nil))) (dpa_cons (dpe_cal c__law_take hr (by first | decide | omega) rfl (takes_of rfl rfl rfl rfl) (dpa_cons (dv 0) (dpa_cons (dpe_ba call_len lc_len rfl T.b_len bb_len (dpa_cons (dv 1) dpa_nil)) dpa_nil))) dpa_nil)) (by rfl))
    (dpss_cons (dps_set (i := 4) sc__law_odd.nd rfl (by first | exact Or.inl rfl | exact Or.inr rfl) (dpe_ixV (dpl_lst (dpa_cons (dpe_op op_add lr_int dpe_int (dv 2)) (dpa_cons (dpe_op op_sub lr_int (dpe_un un_neg lr_neg dpe_int) (dv 2)) (dpa_cons dpe_non (dpa_cons dpe_bl (dpa_cons dpe_str dpa_nil)))))) (dpe_cal c__law_take hr (by first | decide | omega) rfl (takes_of rfl rfl rfl rfl) (dpa_cons (dv 0) (dpa_cons dpe_int dpa_nil))) (fun _ _ => rfl)))
    (dpss_cons (dps_set (i := 5) sc__law_odd.nd rfl (by first | exact Or.inl rfl | exact Or.inr rfl) (dpe_new (dpl_lst (dpa_cons (dpe_op op_catA lr_cat (dpe_op op_catA lr_cat (dpe_slT (dv 1) dpo_none (dpo_some (dv 3))) (dpe_tup (dpa_cons (dv 4) dpa_nil))) (dpe_slT (dv 1) (dpo_some (dpe_op op_add lr_int (dv 3) dpe_int)) dpo_none)) (dpa_cons (dpe_op op_catA lr_cat (dv 1) (dpe_tup (dpa_cons dpe_int dpa_nil))) (dpa_cons (dpe_slT (dv 1) dpo_none (dpo_some (dpe_un un_neg lr_neg dpe_int))) (dpa_cons (dpe_new (dpl_list rfl T.b_list bb_list (dpa_cons (dv 1) dpa_nil))) (dpa_cons dpe_non (dpa_cons (dpe_tup dpa_nil) (dpa_cons dpe_int (dpa_cons dpe_str (dpa_cons (dpe_op op_catA lr_cat (dv 1) (dv 1)) dpa_nil))))))))))))
    (dpss_one (dps_ret (dpe_ix (dv 5) (dpe_cal c__law_take hr (by first | decide | omega) rfl (takes_of rfl rfl rfl rfl) (dpa_cons (dv 0) (dpa_cons dpe_int dpa_nil))) (fun _ _ => rfl))))))), ?_⟩
  · unfold sp_lodd at h; split at h <;> first | rfl | exact h.elim
  · intro ds S Q ED h
    unfold sp_lodd at h
    split at h
    · rename_i b d0
      obtain ⟨as, rfl, eb, l2, l5, ha, h⟩ := h
      have big : 1000 ≤ sizeLine := by decide
      have ll : (as.map D.int).length = as.length := by simp
      have smallLog : ∀ n : Nat, n ≤ 1000 → n.log2 < 9000 := fun n hn => Nat.lt_of_le_of_lt (Nat.log2_le_self n) (by omega)
      simp only [wSeq, wSlT, wNo, wPart, dSlT, dCat, dListT, wFor, iR1, iR2, iTp, iLs, iNw, iLn, wNext, wIf, wRet, wRetN, wDrop, wAsg, gNm, wPar, wVar, wC, wOp, wUn, wTst, wChain, wAnd, wOr, wNot, wAndV, wOrV, wNotV, wIfE, wNil, wCons, wTup, wLst, wNew, wDer, wVL, wVLL, wALL, wCall, wIsa, wRaise, isB, dI0, dI, dU, dLen, dIx, gSubD, setD, wBM, isL, onL, dPopAt, dAppend, wIxV, wEqVL, wEqL, dEqS, dNeS, startD, List.map_cons, List.map_nil, List.length_cons, List.length_nil, List.cons_append, List.nil_append, List.replicate_succ, List.replicate_zero, List.getElem?_cons_zero, List.getElem?_cons_succ, List.set_cons_zero, List.set_cons_succ, Nat.reduceAdd, Nat.reduceSub, Nat.sub_self, kindD, dIsN, dNotN, isaB, String.reduceBEq, Bool.or_false, Bool.false_or, Bool.true_or, Bool.or_true, Bool.and_true, Bool.and_false, Bool.true_and, Bool.false_and, decide_true, decide_false, DL.isNon, if_true, if_false, Bool.not_true, Bool.not_false, Bool.false_eq_true, reduceIte, true_and, and_true, sp_take]
      refine ⟨⟨by decide, by decide, by decide⟩, by decide, eb, ⟨by decide, by decide⟩, fun q q0 q1 => ?_⟩
      obtain ⟨far, ef, hfar⟩ : ∃ m : Int, atI [D.int 2, D.int (10 ^ Int.toNat 18)] q = some (.int m) ∧ (0 < m ∧ m.natAbs.log2 < 9000) := by
        have hq : q = 0 ∨ q = 1 := by omega
        rcases hq with rfl | rfl
        · exact ⟨2, atI0, by decide, by decide⟩
        · exact ⟨10 ^ Int.toNat 18, atI1, by decide, by decide +kernel⟩
      rw [ef]
      refine ⟨eb, hfar, fun k k0 k1 => ⟨eb, ⟨by omega, smallLog _ (by omega)⟩, fun j j0 j1 => ⟨by decide, eb, ⟨by decide, by decide⟩, fun r r0 r1 => ?_⟩⟩⟩
      obtain ⟨bad, ebad, hbad, kbad, nbad⟩ : ∃ bad : D, atI [D.int (1000 + k), D.int (-1 - k), D.non, D.bl true, D.str "1"] r = some bad ∧ isNumD bad 0 999 = false ∧ (∀ S, kOk S bad) ∧ noS bad = true := by
        have hr : r = ((0 : Nat) : Int) ∨ r = ((1 : Nat) : Int) ∨ r = ((2 : Nat) : Int) ∨ r = ((3 : Nat) : Int) ∨ r = ((4 : Nat) : Int) := by omega
        rcases hr with rfl | rfl | rfl | rfl | rfl <;> rw [atI_ofN]
        · exact ⟨_, rfl, by simp [isNumD]; omega, fun S => by simp [kOk, kindD], rfl⟩
        · exact ⟨_, rfl, by simp [isNumD]; omega, fun S => by simp [kOk, kindD], rfl⟩
        · exact ⟨_, rfl, rfl, fun S => by simp [kOk, kindD], rfl⟩
        · exact ⟨_, rfl, rfl, fun S => by simp [kOk, kindD], rfl⟩
        · exact ⟨_, rfl, rfl, fun S => by simp [kOk, kindD], rfl⟩
      rw [ebad]
      rw [ll] at j1 ⊢
      have c1 : DL.cutD (as.map D.int) none (some j) = (as.take j.toNat).map D.int := by rw [cutD_to j0 (by omega), List.map_take]
      have c2 : DL.cutD (as.map D.int) (some (j + 1)) none = (as.drop (j + 1).toNat).map D.int := by rw [cutD_from (by omega) (by omega), List.map_drop]
      have c3 : DL.cutD (as.map D.int) none (some (-1)) = (as.take (as.length - 1)).map D.int := by rw [cutD_last, ll, List.map_take]
      dsimp only
      rw [c1, c2, c3]
      refine ⟨by decide, by simp; omega, by simp; omega, by decide, by omega, fun p hp => ⟨by decide, by omega, by decide, fun p1 hp1 => ?_⟩⟩
      have le0 : ∀ o o', Le S (sup (sup S p o) p1 o') := fun o o' => ((Le.refl S).sup hp).sup (by rw [sup_ne (fun z => by rw [z, sup_same] at hp1; cases hp1)]; rw [sup_ne (fun z => by rw [z, sup_same] at hp1; cases hp1)] at hp1; exact hp1)
      have le1 : ∀ o', Le (sup S p (.lst (as.map D.int))) (sup (sup S p (.lst (as.map D.int))) p1 o') := fun o' => (Le.refl _).sup hp1
      refine ⟨(le0 _ _).at_ eb, ⟨by decide, by decide⟩, fun t t0 t1 => ?_⟩
      rw [sup_same]
      dsimp only
      have same : ∀ d, kOks S d → noS d = true → isTokD d as.length = false → okB d (.tup (as.map D.int)) = false → Dr Q d (sup (sup S p (.lst (as.map D.int))) p1 (.lst [D.tup ((as.take j.toNat).map D.int ++ [bad] ++ (as.drop (j + 1).toNat).map D.int), D.tup (as.map D.int ++ [D.int 0]), D.tup ((as.take (as.length - 1)).map D.int), D.ref p, D.non, D.tup [], D.int 3, D.str "tokens", D.tup (as.map D.int ++ as.map D.int)])) :=
        fun d h1 h2 h3 h4 => ⟨S, le0 _ _, h d S ⟨.inl rfl, h1, h2, okB_l h3, h4⟩⟩
      have ht : t = ((0 : Nat) : Int) ∨ t = ((1 : Nat) : Int) ∨ t = ((2 : Nat) : Int) ∨ t = ((3 : Nat) : Int) ∨ t = ((4 : Nat) : Int) ∨ t = ((5 : Nat) : Int) ∨ t = ((6 : Nat) : Int) ∨ t = ((7 : Nat) : Int) ∨ t = ((8 : Nat) : Int) := by omega
      rcases ht with rfl | rfl | rfl | rfl | rfl | rfl | rfl | rfl | rfl <;> rw [atI_ofN] <;> dsimp only [List.getElem?_cons_zero, List.getElem?_cons_succ]
      · have hm : bad ∈ (as.take j.toNat).map D.int ++ [bad] ++ (as.drop (j + 1).toNat).map D.int := by simp
        refine same _ (kOks_tup (by simp; omega) fun x hx => ?_) (noSs_app (noSs_app (noS_ints _) (by simp [noSs, nbad])) (noS_ints _)) (isTokD_bad hm hbad) (okB_r (.inl (isTokD_bad hm hbad)))
        rcases List.mem_append.mp hx with hx | hx
        · rcases List.mem_append.mp hx with hx | hx
          · exact kOk_ints x hx
          · rw [List.mem_singleton.mp hx]; exact kbad S
        · exact kOk_ints x hx
      · refine same _ (kOks_tup (by simp; omega) fun x hx => ?_) (noSs_app (noS_ints _) rfl) (isTokD_len (by simp; omega)) (okB_r (.inr (by simp)))
        rcases List.mem_append.mp hx with hx | hx
        · exact kOk_ints x hx
        · rw [List.mem_singleton.mp hx]; simp [kOk, kindD]
      · exact same _ (kOks_tup (by simp; omega) kOk_ints) (noS_ints _) (isTokD_len (by simp; omega)) (okB_r (.inr (by simp; omega)))
      · exact ⟨_, le1 _, h (.ref p) _ ⟨.inr ⟨p, _, hp, noS_ints as, rfl⟩, ⟨by simp [kOk, kindD, sup_same], fun xs e => by cases e⟩, rfl, okB_l rfl, rfl⟩⟩
      · exact same _ ⟨by simp [kOk, kindD], fun xs e => by cases e⟩ rfl rfl rfl
      · exact same _ (kOks_tup (by simp) fun x hx => by cases hx) rfl (isTokD_len (by simp; omega)) rfl
      · exact same _ ⟨by simp [kOk, kindD], fun xs e => by cases e⟩ rfl rfl rfl
      · exact same _ ⟨by simp [kOk, kindD], fun xs e => by cases e⟩ rfl rfl rfl
      · refine same _ (kOks_tup (by simp; omega) fun x hx => ?_) (noSs_app (noS_ints _) (noS_ints _)) (isTokD_len (by rw [List.length_append, ll]; omega)) (okB_r (.inr (by rw [List.length_append, ll]; omega)))
        rcases List.mem_append.mp hx with hx | hx
        · exact kOk_ints x hx
        · exact kOk_ints x hx
    · exact h.elim
end
section
variable {P : Program} {w : World} {K : PySem.W.Frag} {mg : Str → Option Value} {base : Heap}
--HINT law | compared(_law_one, _law_other) != _law_word | scal
--HINT law | compared(_law_other, _law_one) != {'less': 'more', 'more': 'less'}.get(_law_word, _law_word) | scal
theorem leI_antisymm : ∀ {as bs : List Int}, as.length = bs.length → leI as bs = true → leI bs as = true → as = bs
  | [], [], _, _, _ => rfl
  | [], _ :: _, h, _, _ => by simp at h
  | _ :: _, [], h, _, _ => by simp at h
  | a :: as, b :: bs, h, h1, h2 => by
    have h1' : (decide (a ≤ b) && leI as bs) = true := h1
    have h2' : (decide (b ≤ a) && leI bs as) = true := h2
    rw [Bool.and_eq_true, decide_eq_true_eq] at h1' h2'
    rw [leI_antisymm (by simpa using h) h1'.2 h2'.2]
    congr 1
    omega
theorem leI_refl : ∀ as : List Int, leI as as = true
  | [] => rfl
  | a :: as => by
    show (decide (a ≤ a) && leI as as) = true
    simp [leI_refl as]
theorem joinI_comm : ∀ as bs : List Int, joinI as bs = joinI bs as
  | [], [] => rfl
  | [], _ :: _ => rfl
  | _ :: _, [] => rfl
  | a :: as, b :: bs => by
    show max a b :: joinI as bs = max b a :: joinI bs as
    rw [joinI_comm as bs, Int.max_comm]
theorem joinI_self : ∀ as : List Int, joinI as as = as
  | [] => rfl
  | a :: as => by
    show max a a :: joinI as as = _
    rw [joinI_self as, Int.max_self]
def wordB (l m : Bool) : Str := if (l && m) = true then "same" else if l = true then "less" else if m = true then "more" else "apart"
theorem cmp_word {as bs : List Int} (h : as.length = bs.length) : cmpW as bs = wordB (leI as bs) (leI bs as) := by
  unfold cmpW wordB
  by_cases e : as = bs
  · subst e; simp [leI_refl]
  · rw [if_neg e]
    have : ¬ (leI as bs && leI bs as) = true := fun z => by
      rw [Bool.and_eq_true] at z
      exact e (leI_antisymm h z.1 z.2)
    rw [if_neg this]
theorem sw_word : ∀ l m : Bool, getSSD [("less", "more"), ("more", "less")] (wordB l m) (D.str (wordB l m)) = D.str (wordB m l) := by
  intro l m
  cases l <;> cases m <;> rfl
theorem alk_ints {n : Nat} {S : Store} {as : List Int} (h : as.length ≤ 1000) : Alk (n + 2) S (.tup (as.map D.int)) (.tup (as.map D.int)) := by
  refine ⟨rfl, by simp; omega, fun i f d hf hd => ?_⟩
  rw [hf] at hd
  cases hd
  rw [List.getElem?_map] at hf
  cases q : as[i]? with
  | none => rw [q] at hf; cases hf
  | some a => rw [q] at hf; cases hf; exact rfl
structure Calls (P : Program) (w : World) (K : PySem.W.Frag) (mg : Str → Option Value) (base : Heap) : Prop where
  c_joined : Cal P w K mg base "joined" 5 ["one", "other"] sp_joined
  c_compared : Cal P w K mg base "compared" 5 ["one", "other"] sp_compared
  c__law_begun : Cal P w K mg base "_law_begun" 1 ["_law_script"] sp_begun
  c__law_take : Cal P w K mg base "_law_take" 1 ["_law_box", "_law_many"] sp_take
  c__law_token : Cal P w K mg base "_law_token" 2 ["_law_box", "_law_many"] sp_ltoken
  c__law_within : Cal P w K mg base "_law_within" 1 ["_law_one", "_law_other"] sp_lwithin
  c__law_join : Cal P w K mg base "_law_join" 1 ["_law_one", "_law_other"] sp_ljoin
  c__law_alike : Cal P w K mg base "_law_alike" 4 ["_law_found", "_law_due"] (sp_alike 4)
  c__law_all : Cal P w K mg base "_law_all" 15 ["_law_works", "_law_due"] (sp_all P w K mg base 8 ["BadToken"] 4)
  c__law_odd : Cal P w K mg base "_law_odd" 2 ["_law_box", "_law_one"] sp_lodd
def sp_law (PT : Addr) : SpD := fun ds S Q _ => match ds with
  | [d] => ∃ ns, isInts d S ns ∧ ns.length ≤ 63 ∧ S PT = some (.tab "law.<locals>.<lambda>") ∧ NoSS S ∧ ∀ S', Q (.bl true) S'
  | _ => False
theorem sc_law : FnScope ["_law_script", "_law_box", "_law_turn", "_law_many", "_law_one", "_law_other", "_law_k", "_law_less", "_law_more", "_law_word", "_law_few", "_law_odd_here", "_law_works"] ["_law_script"] (defScope s_law) := ⟨rfl, rfl, rfl, by decide +kernel, rfl, by decide +kernel, by decide +kernel⟩
theorem ok_law {f c PT : Addr} {dV kV doc pm cdv ct oc : Value} {an od : Option Addr} {osl : Array (Option Value)} (hc : cdv = .ref c) (TB : LamX.TabB base mg c PT)
    (lk : K.lookup f = some ⟨oc, od, .func (PySem.W.fnOf "law" "law" (defArgs s_law) (defBody s_law) (defScope s_law) dV kV doc pm an cdv ct), osl⟩) (hcd : PySem.W.codeIn K cdv "law" = true) (T : Txt K mg) (C : Calls P w K mg base) :
    FnOk P w K mg base (L2.CX P w) 17 f (PySem.W.fnOf "law" "law" (defArgs s_law) (defBody s_law) (defScope s_law) dV kV doc pm an cdv ct) ["_law_script"] (upSp K mg (sp_law PT)) := by
  obtain ⟨c_joined, c_compared, c__law_begun, c__law_take, c__law_token, c__law_within, c__law_join, c__law_alike, c__law_all, c__law_odd⟩ := C
  refine law_ok lk hcd sc_law (fun ds S Q E h => ?_) fun A outer s H E hr => ?_
  · unfold sp_law at h; split at h <;> first | rfl | exact h.elim
  have hcode : (cxOf (L2.CX P w) P w K mg base ["_law_script", "_law_box", "_law_turn", "_law_many", "_law_one", "_law_other", "_law_k", "_law_less", "_law_more", "_law_word", "_law_few", "_law_odd_here", "_law_works"] "law" (defScope s_law) f cdv A outer s H E).env.code = .ref c := hc
  refine ⟨_, (dpss_cons (dps_set (i := 1) sc_law.nd rfl (by first | exact Or.inl rfl | exact Or.inr rfl) (dpe_cal c__law_begun hr (by first | decide | omega) rfl (takes_of rfl rfl rfl rfl) (dpa_cons (dv 0) dpa_nil)))
    (dpss_cons (dps_for (passes_of rfl) rfl (dpi_r1 rfl T.b_range (dpa_cons dpe_int dpa_nil)) (dpg_name (vs := [2]) (i := 2) sc_law.nd rfl (by first | exact Or.inl rfl | exact Or.inr rfl) (by decide)) (dpss_cons (dps_set (i := 3) sc_law.nd rfl (by first | exact Or.inl rfl | exact Or.inr rfl) (dpe_op op_add lr_int dpe_int (dpe_cal c__law_take hr (by first | decide | omega) rfl (takes_of rfl rfl rfl rfl) (dpa_cons (dv 1) (dpa_cons dpe_int dpa_nil)))))
    (dpss_cons (dps_set (i := 4) sc_law.nd rfl (by first | exact Or.inl rfl | exact Or.inr rfl) (dpe_cal c__law_token hr (by first | decide | omega) rfl (takes_of rfl rfl rfl rfl) (dpa_cons (dv 1) (dpa_cons (dv 3) dpa_nil))))
    (dpss_cons (dps_set (i := 5) sc_law.nd rfl (by first | exact Or.inl rfl | exact Or.inr rfl) (dpe_tv call_tuple_of lc_tup rfl T.b_tuple bb_tuple (dpv_new (dpl_lc (own := [("_law_k", 6)]) rfl sc_law.nd (dpi_r1 rfl T.b_range (dpa_cons (dv 3) dpa_nil)) (blkOk_by (own := [("_law_k", 6)]) (by rfl)) (fun _ _ _ _ _ => (dpg_name (vs := [6]) (i := 6) sc_law.nd rfl (by first | exact Or.inl rfl | exact Or.inr rfl) (by decide))) (fun _ _ _ _ _ => dpts_nil) (fun _ _ _ _ _ => (dpe_ifE (dpt_cmp op_eq lr_eqS (dpe_cal c__law_take hr (by first | decide | omega) rfl takes0 (dpa_cons (dv 1) (dpa_cons dpe_int dpa_nil))) dpe_int (nomark _)) (dpe_ix (dv 4) (dv 6) (fun _ _ => rfl)) (dpe_cal c__law_take hr (by first | decide | omega) rfl takes0 (dpa_cons (dv 1) (dpa_cons dpe_int dpa_nil)))))))))
    (dpss_cons (dps_par (i := 7) (j := 8) rfl sc_law.nd rfl rfl (by decide) rfl rfl (dpa_cons (dpe_cal c__law_within hr (by first | decide | omega) rfl (takes_of rfl rfl rfl rfl) (dpa_cons (dv 4) (dpa_cons (dv 5) dpa_nil))) (dpa_cons (dpe_cal c__law_within hr (by first | decide | omega) rfl (takes_of rfl rfl rfl rfl) (dpa_cons (dv 5) (dpa_cons (dv 4) dpa_nil))) dpa_nil)) (by rfl))
    (dpss_cons (dps_set (i := 9) sc_law.nd rfl (by first | exact Or.inl rfl | exact Or.inr rfl) (dpe_ifE (dpw_pt (dpw_and (dpt_val (dv 7)) (dpw_and1 (dpt_val (dv 8))))) dpe_str (dpe_ifE (dpt_val (dv 7)) dpe_str (dpe_ifE (dpt_val (dv 8)) dpe_str dpe_str))))
    (dpss_cons (dps_if (dpt_not (dpt_val (dpe_cal c__law_alike hr (by first | decide | omega) rfl (takes_of rfl rfl rfl rfl) (dpa_cons (dpe_new (dpl_lst (dpa_cons (dpe_cal c_joined hr (by first | decide | omega) rfl (takes_of rfl rfl rfl rfl) (dpa_cons (dv 4) (dpa_cons (dv 5) dpa_nil))) (dpa_cons (dpe_cal c_joined hr (by first | decide | omega) rfl (takes_of rfl rfl rfl rfl) (dpa_cons (dv 5) (dpa_cons (dv 4) dpa_nil))) dpa_nil)))) (dpa_cons (dpe_new (dpl_rep (dpl_lst (dpa_cons (dpe_cal c__law_join hr (by first | decide | omega) rfl (takes_of rfl rfl rfl rfl) (dpa_cons (dv 4) (dpa_cons (dv 5) dpa_nil))) dpa_nil)) dpe_int)) dpa_nil))))) (dpss_one (dps_ret dpe_bl)) dpss_nil)
    (dpss_cons (dps_if (dpw_pt (dpw_or (dpt_cmp op_ne lr_neS (dpe_cal c_compared hr (by first | decide | omega) rfl (takes_of rfl rfl rfl rfl) (dpa_cons (dv 4) (dpa_cons (dv 5) dpa_nil))) (dv 9) (nomark _)) (dpw_or (dpt_cmp op_ne lr_neS (dpe_cal c_compared hr (by first | decide | omega) rfl (takes_of rfl rfl rfl rfl) (dpa_cons (dv 4) (dpa_cons (dv 4) dpa_nil))) dpe_str (nomark _)) (dpw_or1 (dpt_cmp (op_neD (hr.units)) lr_ne (dpe_cal c_joined hr (by first | decide | omega) rfl (takes_of rfl rfl rfl rfl) (dpa_cons (dv 4) (dpa_cons (dv 4) dpa_nil))) (dv 4) (nomark _)))))) (dpss_one (dps_ret dpe_bl)) dpss_nil)
    (dpss_cons (dps_if (dpt_cmp op_ne lr_neS (dpe_cal c_compared hr (by first | decide | omega) rfl (takes_of rfl rfl rfl rfl) (dpa_cons (dv 5) (dpa_cons (dv 4) dpa_nil))) (dpe_dgetC (kvs := [("less", "more"), ("more", "less")]) ((Nat.lt_of_le_of_lt (Nat.add_le_add_left (by decide) _) hr.units)) (pps_cons pe_str pe_str (pps_cons pe_str pe_str pps_nil)) (by decide) (by decide) (dv 9) (dv 9) ⟨rfl, rfl, rfl, rfl⟩) (nomark _)) (dpss_one (dps_ret dpe_bl)) dpss_nil)
    (dpss_cons (dps_set (i := 10) sc_law.nd rfl (by first | exact Or.inl rfl | exact Or.inr rfl) (dpe_tv call_tuple_of lc_tup rfl T.b_tuple bb_tuple (dpv_new (dpl_lc (own := [("_law_k", 6)]) rfl sc_law.nd (dpi_r1 rfl T.b_range (dpa_cons (dpe_ixV (dpl_lst (dpa_cons dpe_int (dpa_cons dpe_int (dpa_cons dpe_int dpa_nil)))) (dpe_cal c__law_take hr (by first | decide | omega) rfl (takes_of rfl rfl rfl rfl) (dpa_cons (dv 1) (dpa_cons dpe_int dpa_nil))) (fun _ _ => rfl)) dpa_nil)) (blkOk_by (own := [("_law_k", 6)]) (by rfl)) (fun _ _ _ _ _ => (dpg_name (vs := [6]) (i := 6) sc_law.nd rfl (by first | exact Or.inl rfl | exact Or.inr rfl) (by decide))) (fun _ _ _ _ _ => dpts_nil) (fun _ _ _ _ _ => (dpe_cal c__law_take hr (by first | decide | omega) rfl takes0 (dpa_cons (dv 1) (dpa_cons dpe_int dpa_nil))))))))
    (dpss_cons (dps_if (dpt_not (dpt_val (dpe_calS (names := [("_law_few", 10)]) c__law_all hr (by first | decide | omega) rfl (takes_of rfl rfl rfl rfl) (dpa_cons (dpe_new (dpl_lst (dpa_cons (dpe_lamS TB hcode rfl rfl rfl (.inl rfl)) (dpa_cons (dpe_lamS TB hcode rfl rfl rfl (.inr ⟨_, _, _, rfl⟩)) dpa_nil)))) (dpa_cons (dpe_tup (dpa_cons dpe_str (dpa_cons dpe_int dpa_nil))) dpa_nil)) (fun _ => rfl) (nmB_ok rfl)))) (dpss_one (dps_ret dpe_bl)) dpss_nil)
    (dpss_cons (dps_set (i := 11) sc_law.nd rfl (by first | exact Or.inl rfl | exact Or.inr rfl) (dpe_cal c__law_odd hr (by first | decide | omega) rfl (takes_of rfl rfl rfl rfl) (dpa_cons (dv 1) (dpa_cons (dv 4) dpa_nil))))
    (dpss_cons (dps_set (i := 12) sc_law.nd rfl (by first | exact Or.inl rfl | exact Or.inr rfl) (dpe_new (dpl_lst (dpa_cons (dpe_lamS TB hcode rfl rfl rfl (.inl rfl)) (dpa_cons (dpe_lamS TB hcode rfl rfl rfl (.inr ⟨_, _, _, rfl⟩)) (dpa_cons (dpe_lamS TB hcode rfl rfl rfl (.inr ⟨_, _, _, rfl⟩)) dpa_nil))))))
    (dpss_one (dps_if (dpt_not (dpt_val (dpe_calS (names := [("_law_one", 4), ("_law_odd_here", 11)]) c__law_all hr (by first | decide | omega) rfl (takes_of rfl rfl rfl rfl) (dpa_cons (dpe_new (dpl_catV (dv 12) (dpl_lst (dpa_cons (dpe_lamS TB hcode rfl rfl rfl (.inr ⟨_, _, _, rfl⟩)) dpa_nil)))) (dpa_cons (dpe_tup (dpa_cons dpe_str (dpa_cons dpe_int dpa_nil))) dpa_nil)) (fun _ => rfl) (nmB_ok rfl)))) (dpss_one (dps_ret dpe_bl)) dpss_nil)))))))))))))))
    (dpss_one (dps_ret dpe_bl)))), ?_⟩
  · intro ds S Q ED h
    unfold sp_law at h
    split at h
    · rename_i d
      obtain ⟨ns, hi, hn, ePT, nS, h⟩ := h
      simp only [wSeq, wSlT, wNo, wPart, dSlT, dCat, dListT, wFor, iR1, iR2, iTp, iLs, iNw, iLn, wNext, wIf, wRet, wRetN, wDrop, wAsg, gNm, wPar, wVar, wC, wOp, wUn, wTst, wChain, wAnd, wOr, wNot, wAndV, wOrV, wNotV, wIfE, wNil, wCons, wTup, wLst, wNew, wDer, wVL, wVLL, wALL, wCall, wIsa, wRaise, isB, dI0, dI, dU, dLen, dIx, gSubD, setD, wBM, isL, onL, dPopAt, dAppend, wIxV, wEqVL, wEqL, dEqS, dNeS, startD, List.map_cons, List.map_nil, List.length_cons, List.length_nil, List.cons_append, List.nil_append, List.replicate_succ, List.replicate_zero, List.getElem?_cons_zero, List.getElem?_cons_succ, List.set_cons_zero, List.set_cons_succ, Nat.reduceAdd, Nat.reduceSub, Nat.sub_self, kindD, dIsN, dNotN, isaB, String.reduceBEq, Bool.or_false, Bool.false_or, Bool.true_or, Bool.or_true, Bool.and_true, Bool.and_false, Bool.true_and, Bool.false_and, decide_true, decide_false, DL.isNon, if_true, if_false, Bool.not_true, Bool.not_false, Bool.false_eq_true, reduceIte, true_and, and_true, sp_begun]
      refine ⟨ns, hi, hn, fun b hb => ?_⟩
      have ePT' : sup S b .box PT = some (.tab "law.<locals>.<lambda>") := by rw [sup_ne (sne ePT hb)]; exact ePT
      have nS' : NoSS (sup S b .box) := fun a o e => by
        by_cases z : a = b
        · subst z; rw [sup_same] at e; cases e; rfl
        · rw [sup_ne z] at e; exact nS a o e
      refine ⟨⟨by decide, by decide⟩, forW_ind (fun ds σ S' => (∃ o2 o3 o4 o5 o6 o7 o8 o9 o10 o11 o12, σ = [some d, some (.ref b), o2, o3, o4, o5, o6, o7, o8, o9, o10, o11, o12]) ∧ S' b = some .box ∧ S' PT = some (.tab "law.<locals>.<lambda>") ∧ NoSS S') ?_ ?_ ⟨⟨_, _, _, _, _, _, _, _, _, _, _, rfl⟩, sup_same, ePT', nS'⟩⟩
      · rintro σ S' ⟨⟨o2, o3, o4, o5, o6, o7, o8, o9, o10, o11, o12, rfl⟩, -, -, -⟩
        exact ⟨True.intro, S', Le.refl _, h S'⟩
      · rintro t ts σ S1 ⟨⟨o2, o3, o4, o5, o6, o7, o8, o9, o10, o11, o12, rfl⟩, eb, eP, n1⟩ nx
        refine ⟨True.intro, ?_⟩
        generalize hst : forW _ _ _ ts _ = NX at nx ⊢
        clear hst
        simp only [wSeq_nx, wSlT, wNo, wPart, dSlT, dCat, dListT, wFor, iR1, iR2, iTp, iLs, iNw, iLn, wNext, wIf, wRet, wRetN, wDrop, wAsg, gNm, wPar, wVar, wC, wOp, wUn, wTst, wChain, wAnd, wOr, wNot, wAndV, wOrV, wNotV, wIfE, wNil, wCons, wTup, wLst, wNew, wDer, wVL, wVLL, wALL, wCall, wIsa, wRaise, isB, dI0, dI, dU, dLen, dIx, gSubD, setD, wBM, isL, onL, dPopAt, dAppend, wIxV, wEqVL, wEqL, dEqS, dNeS, startD, List.map_cons, List.map_nil, List.length_cons, List.length_nil, List.cons_append, List.nil_append, List.replicate_succ, List.replicate_zero, List.getElem?_cons_zero, List.getElem?_cons_succ, List.set_cons_zero, List.set_cons_succ, Nat.reduceAdd, Nat.reduceSub, Nat.sub_self, kindD, dIsN, dNotN, isaB, String.reduceBEq, Bool.or_false, Bool.false_or, Bool.true_or, Bool.or_true, Bool.and_true, Bool.and_false, Bool.true_and, Bool.false_and, decide_true, decide_false, DL.isNon, if_true, if_false, Bool.not_true, Bool.not_false, Bool.false_eq_true, reduceIte, true_and, and_true, sp_take]
        refine ⟨eb, ⟨by decide, by decide⟩, fun m m0 m1 => ?_⟩
        unfold Nx
        simp only [wSeq_nx, wSlT, wNo, wPart, dSlT, dCat, dListT, wFor, iR1, iR2, iTp, iLs, iNw, iLn, wNext, wIf, wRet, wRetN, wDrop, wAsg, gNm, wPar, wVar, wC, wOp, wUn, wTst, wChain, wAnd, wOr, wNot, wAndV, wOrV, wNotV, wIfE, wNil, wCons, wTup, wLst, wNew, wDer, wVL, wVLL, wALL, wCall, wIsa, wRaise, isB, dI0, dI, dU, dLen, dIx, gSubD, setD, wBM, isL, onL, dPopAt, dAppend, wIxV, wEqVL, wEqL, dEqS, dNeS, startD, List.map_cons, List.map_nil, List.length_cons, List.length_nil, List.cons_append, List.nil_append, List.replicate_succ, List.replicate_zero, List.getElem?_cons_zero, List.getElem?_cons_succ, List.set_cons_zero, List.set_cons_succ, Nat.reduceAdd, Nat.reduceSub, Nat.sub_self, kindD, dIsN, dNotN, isaB, String.reduceBEq, Bool.or_false, Bool.false_or, Bool.true_or, Bool.or_true, Bool.and_true, Bool.and_false, Bool.true_and, Bool.false_and, decide_true, decide_false, DL.isNon, if_true, if_false, Bool.not_true, Bool.not_false, Bool.false_eq_true, reduceIte, true_and, and_true, sp_ltoken]
        refine ⟨eb, by omega, by omega, fun as la ga => ?_⟩
        have h1000 : 1000 ≤ sizeLine := by decide
        unfold Nx
        simp only [wSeq_nx, wSlT, wNo, wPart, dSlT, dCat, dListT, wFor, iR1, iR2, iTp, iLs, iNw, iLn, wNext, wIf, wRet, wRetN, wDrop, wAsg, gNm, wPar, wVar, wC, wOp, wUn, wTst, wChain, wAnd, wOr, wNot, wAndV, wOrV, wNotV, wIfE, wNil, wCons, wTup, wLst, wNew, wDer, wVL, wVLL, wALL, wCall, wIsa, wRaise, isB, dI0, dI, dU, dLen, dIx, gSubD, setD, wBM, isL, onL, dPopAt, dAppend, wIxV, wEqVL, wEqL, dEqS, dNeS, startD, List.map_cons, List.map_nil, List.length_cons, List.length_nil, List.cons_append, List.nil_append, List.replicate_succ, List.replicate_zero, List.getElem?_cons_zero, List.getElem?_cons_succ, List.set_cons_zero, List.set_cons_succ, Nat.reduceAdd, Nat.reduceSub, Nat.sub_self, kindD, dIsN, dNotN, isaB, String.reduceBEq, Bool.or_false, Bool.false_or, Bool.true_or, Bool.or_true, Bool.and_true, Bool.and_false, Bool.true_and, Bool.false_and, decide_true, decide_false, DL.isNon, if_true, if_false, Bool.not_true, Bool.not_false, Bool.false_eq_true, reduceIte, true_and, and_true, wLc]
        refine ⟨by omega, ?_⟩
        refine lcW_rel (fun _ y => ∃ a, y = .int a ∧ 0 ≤ a ∧ a ≤ 999) True.intro (by simp [rngD]; omega) (fun x hx Kt Z k => ?_) fun ys hys hr => ?_
        · obtain ⟨i, hi, rfl⟩ := List.mem_map.mp hx
          have hi : i < as.length := by have : i < (2 + m).toNat := by simpa using hi
                                        omega
          simp only [wSeq, wSlT, wNo, wPart, dSlT, dCat, dListT, wFor, iR1, iR2, iTp, iLs, iNw, iLn, wNext, wIf, wRet, wRetN, wDrop, wAsg, gNm, wPar, wVar, wC, wOp, wUn, wTst, wChain, wAnd, wOr, wNot, wAndV, wOrV, wNotV, wIfE, wNil, wCons, wTup, wLst, wNew, wDer, wVL, wVLL, wALL, wCall, wIsa, wRaise, isB, dI0, dI, dU, dLen, dIx, gSubD, setD, wBM, isL, onL, dPopAt, dAppend, wIxV, wEqVL, wEqL, dEqS, dNeS, startD, List.map_cons, List.map_nil, List.length_cons, List.length_nil, List.cons_append, List.nil_append, List.replicate_succ, List.replicate_zero, List.getElem?_cons_zero, List.getElem?_cons_succ, List.set_cons_zero, List.set_cons_succ, Nat.reduceAdd, Nat.reduceSub, Nat.sub_self, kindD, dIsN, dNotN, isaB, String.reduceBEq, Bool.or_false, Bool.false_or, Bool.true_or, Bool.or_true, Bool.and_true, Bool.and_false, Bool.true_and, Bool.false_and, decide_true, decide_false, DL.isNon, if_true, if_false, Bool.not_true, Bool.not_false, Bool.false_eq_true, reduceIte, true_and, and_true, wipeD, wYes, sp_take, Int.zero_add]
          refine ⟨eb, ⟨by decide, by decide⟩, fun q q0 q1 => ?_⟩
          split
          · rw [atI_ofN, List.getElem?_map, List.getElem?_eq_getElem hi]
            exact k _ ⟨_, rfl, ga _ (List.getElem_mem hi)⟩
          · exact ⟨eb, ⟨by decide, by decide⟩, fun a a0 a1 => k _ ⟨a, rfl, a0, by omega⟩⟩
        · obtain ⟨bs, e, gb⟩ := ints_of (ys := ys) (P := fun a => 0 ≤ a ∧ a ≤ 999) fun y hy => by
            obtain ⟨i, hi⟩ := List.getElem?_of_mem hy
            have hl : i < (rngD 0 (2 + m).toNat).length := by rw [← hys]; exact (List.getElem?_eq_some_iff.mp hi).1
            exact hr i _ y (List.getElem?_eq_getElem hl) hi
          subst e
          have lb : bs.length = as.length := by simp [rngD] at hys; omega
          clear hr hys
          simp only [wSeq_nx, wSlT, wNo, wPart, dSlT, dCat, dListT, wFor, iR1, iR2, iTp, iLs, iNw, iLn, wNext, wIf, wRet, wRetN, wDrop, wAsg, gNm, wPar, wVar, wC, wOp, wUn, wTst, wChain, wAnd, wOr, wNot, wAndV, wOrV, wNotV, wIfE, wNil, wCons, wTup, wLst, wNew, wDer, wVL, wVLL, wALL, wCall, wIsa, wRaise, isB, dI0, dI, dU, dLen, dIx, gSubD, setD, wBM, isL, onL, dPopAt, dAppend, wIxV, wEqVL, wEqL, dEqS, dNeS, startD, List.map_cons, List.map_nil, List.length_cons, List.length_nil, List.cons_append, List.nil_append, List.replicate_succ, List.replicate_zero, List.getElem?_cons_zero, List.getElem?_cons_succ, List.set_cons_zero, List.set_cons_succ, Nat.reduceAdd, Nat.reduceSub, Nat.sub_self, kindD, dIsN, dNotN, isaB, String.reduceBEq, Bool.or_false, Bool.false_or, Bool.true_or, Bool.or_true, Bool.and_true, Bool.and_false, Bool.true_and, Bool.false_and, decide_true, decide_false, DL.isNon, if_true, if_false, Bool.not_true, Bool.not_false, Bool.false_eq_true, reduceIte, true_and, and_true, dTupOf]
          unfold Nx
          simp only [wSeq_nx, wSlT, wNo, wPart, dSlT, dCat, dListT, wFor, iR1, iR2, iTp, iLs, iNw, iLn, wNext, wIf, wRet, wRetN, wDrop, wAsg, gNm, wPar, wVar, wC, wOp, wUn, wTst, wChain, wAnd, wOr, wNot, wAndV, wOrV, wNotV, wIfE, wNil, wCons, wTup, wLst, wNew, wDer, wVL, wVLL, wALL, wCall, wIsa, wRaise, isB, dI0, dI, dU, dLen, dIx, gSubD, setD, wBM, isL, onL, dPopAt, dAppend, wIxV, wEqVL, wEqL, dEqS, dNeS, startD, List.map_cons, List.map_nil, List.length_cons, List.length_nil, List.cons_append, List.nil_append, List.replicate_succ, List.replicate_zero, List.getElem?_cons_zero, List.getElem?_cons_succ, List.set_cons_zero, List.set_cons_succ, Nat.reduceAdd, Nat.reduceSub, Nat.sub_self, kindD, dIsN, dNotN, isaB, String.reduceBEq, Bool.or_false, Bool.false_or, Bool.true_or, Bool.or_true, Bool.and_true, Bool.and_false, Bool.true_and, Bool.false_and, decide_true, decide_false, DL.isNon, if_true, if_false, Bool.not_true, Bool.not_false, Bool.false_eq_true, reduceIte, true_and, and_true, sp_lwithin]
          refine ⟨as, bs, rfl, by omega, by omega, bs, as, rfl, by omega, by omega, ?_⟩
          unfold Nx
          simp only [wSeq_nx, wSlT, wNo, wPart, dSlT, dCat, dListT, wFor, iR1, iR2, iTp, iLs, iNw, iLn, wNext, wIf, wRet, wRetN, wDrop, wAsg, gNm, wPar, wVar, wC, wOp, wUn, wTst, wChain, wAnd, wOr, wNot, wAndV, wOrV, wNotV, wIfE, wNil, wCons, wTup, wLst, wNew, wDer, wVL, wVLL, wALL, wCall, wIsa, wRaise, isB, dI0, dI, dU, dLen, dIx, gSubD, setD, wBM, isL, onL, dPopAt, dAppend, wIxV, wEqVL, wEqL, dEqS, dNeS, startD, List.map_cons, List.map_nil, List.length_cons, List.length_nil, List.cons_append, List.nil_append, List.replicate_succ, List.replicate_zero, List.getElem?_cons_zero, List.getElem?_cons_succ, List.set_cons_zero, List.set_cons_succ, Nat.reduceAdd, Nat.reduceSub, Nat.sub_self, kindD, dIsN, dNotN, isaB, String.reduceBEq, Bool.or_false, Bool.false_or, Bool.true_or, Bool.or_true, Bool.and_true, Bool.and_false, Bool.true_and, Bool.false_and, decide_true, decide_false, DL.isNon, if_true, if_false, Bool.not_true, Bool.not_false, Bool.false_eq_true, reduceIte, true_and, and_true]
          generalize hN : Nx (wSeq _ _) _ = N2
          have kA : ∀ (S : Store) (xs : List Int), xs.length ≤ 5 → kOks S (.tup (xs.map D.int)) := fun S xs hx => kOks_tup (by simp; omega) kOk_ints
          have la5 : 2 ≤ as.length ∧ as.length ≤ 5 := by omega
          have oab : okB (.tup (as.map D.int)) (.tup (bs.map D.int)) = true := okB_of la5.1 la5.2 lb ga gb
          have oba : okB (.tup (bs.map D.int)) (.tup (as.map D.int)) = true := okB_of (by omega) (by omega) lb.symm gb ga
          have oaa : okB (.tup (as.map D.int)) (.tup (as.map D.int)) = true := okB_of la5.1 la5.2 rfl ga ga
          have injI : ∀ {xs ys : List Int}, D.tup (xs.map D.int) = D.tup (ys.map D.int) → xs = ys := fun {xs ys} e => by
            have e := D.tup.inj e
            exact (List.map_inj_right (fun _ _ h => D.int.inj h)).mp e
          have key : ∀ wd, wd = cmpW as bs → N2 [some d, some (.ref b), some t, some (.int (2 + m)), some (.tup (as.map D.int)), some (.tup (bs.map D.int)), o6, some (.bl (leI as bs)), some (.bl (leI bs as)), some (.str wd), o10, o11, o12] S1 := by
            intro wd ewd
            subst hN
            unfold Nx
            simp only [wSeq_nx, wSlT, wNo, wPart, dSlT, dCat, dListT, wFor, iR1, iR2, iTp, iLs, iNw, iLn, wNext, wIf, wRet, wRetN, wDrop, wAsg, gNm, wPar, wVar, wC, wOp, wUn, wTst, wChain, wAnd, wOr, wNot, wAndV, wOrV, wNotV, wIfE, wNil, wCons, wTup, wLst, wNew, wDer, wVL, wVLL, wALL, wCall, wIsa, wRaise, isB, dI0, dI, dU, dLen, dIx, gSubD, setD, wBM, isL, onL, dPopAt, dAppend, wIxV, wEqVL, wEqL, dEqS, dNeS, startD, List.map_cons, List.map_nil, List.length_cons, List.length_nil, List.cons_append, List.nil_append, List.replicate_succ, List.replicate_zero, List.getElem?_cons_zero, List.getElem?_cons_succ, List.set_cons_zero, List.set_cons_succ, Nat.reduceAdd, Nat.reduceSub, Nat.sub_self, kindD, dIsN, dNotN, isaB, String.reduceBEq, Bool.or_false, Bool.false_or, Bool.true_or, Bool.or_true, Bool.and_true, Bool.and_false, Bool.true_and, Bool.false_and, decide_true, decide_false, DL.isNon, if_true, if_false, Bool.not_true, Bool.not_false, Bool.false_eq_true, reduceIte, true_and, and_true, sp_joined, sp_ljoin, wRepL]
            refine ⟨kA _ _ la5.2, kA _ _ (by omega), fun _ as' bs' ea eb' => ?_, fun z => by rw [oab] at z; cases z⟩
            obtain rfl := injI ea
            obtain rfl := injI eb'
            refine ⟨kA _ _ (by omega), kA _ _ la5.2, fun _ as' bs' ea eb' => ?_, fun z => by rw [oba] at z; cases z⟩
            obtain rfl := injI ea
            obtain rfl := injI eb'
            refine ⟨by decide, fun p hp => ⟨_, _, rfl, by omega, by omega, by decide, ⟨by decide, by decide, by decide⟩, fun p1 hp1 => ?_⟩⟩
            have ne1 : p ≠ p1 := fun z => by rw [← z, sup_same] at hp1; cases hp1
            have hp1' : S1 p1 = none := by rw [sup_ne (Ne.symm ne1)] at hp1; exact hp1
            have hS2 : ∃ S2, S2 = sup (sup S1 p (.lst [D.tup ((joinI as bs).map D.int), D.tup ((joinI bs as).map D.int)])) p1 (.lst (List.replicate (Int.toNat 2) [D.tup ((joinI as bs).map D.int)]).flatten) := ⟨_, rfl⟩
            obtain ⟨S2, hS2⟩ := hS2
            rw [← hS2]
            have l2 : S2 p = some (.lst [D.tup ((joinI as bs).map D.int), D.tup ((joinI bs as).map D.int)]) := by rw [hS2, sup_ne ne1, sup_same]
            have l3 : S2 p1 = some (.lst [D.tup ((joinI as bs).map D.int), D.tup ((joinI as bs).map D.int)]) := by rw [hS2, sup_same]; rfl
            have eb2 : S2 b = some .box := by rw [hS2, sup_ne (sne eb hp1'), sup_ne (sne eb hp)]; exact eb
            have eP2 : S2 PT = some (.tab "law.<locals>.<lambda>") := by rw [hS2, sup_ne (sne eP hp1'), sup_ne (sne eP hp)]; exact eP
            have n2 : NoSS S2 := by
              rw [hS2]
              refine NoSS.sup (NoSS.sup n1 ?_) ?_
              · simp [noSo, noSs, noS, noS_ints]
              · simp [noSo, noSs, noS, noS_ints, List.replicate]
            clear hS2
            simp only [wSeq_nx, wSlT, wNo, wPart, dSlT, dCat, dListT, wFor, iR1, iR2, iTp, iLs, iNw, iLn, wNext, wIf, wRet, wRetN, wDrop, wAsg, gNm, wPar, wVar, wC, wOp, wUn, wTst, wChain, wAnd, wOr, wNot, wAndV, wOrV, wNotV, wIfE, wNil, wCons, wTup, wLst, wNew, wDer, wVL, wVLL, wALL, wCall, wIsa, wRaise, isB, dI0, dI, dU, dLen, dIx, gSubD, setD, wBM, isL, onL, dPopAt, dAppend, wIxV, wEqVL, wEqL, dEqS, dNeS, startD, List.map_cons, List.map_nil, List.length_cons, List.length_nil, List.cons_append, List.nil_append, List.replicate_succ, List.replicate_zero, List.getElem?_cons_zero, List.getElem?_cons_succ, List.set_cons_zero, List.set_cons_succ, Nat.reduceAdd, Nat.reduceSub, Nat.sub_self, kindD, dIsN, dNotN, isaB, String.reduceBEq, Bool.or_false, Bool.false_or, Bool.true_or, Bool.or_true, Bool.and_true, Bool.and_false, Bool.true_and, Bool.false_and, decide_true, decide_false, DL.isNon, if_true, if_false, Bool.not_true, Bool.not_false, Bool.false_eq_true, reduceIte, true_and, and_true, sp_alike]
            refine ⟨alk_ref l2 l3 rfl (by simp) fun i x y hx hy => ?_, ?_⟩
            · have hj : (joinI as bs).length ≤ 1000 := by unfold joinI; simp; omega
              rw [joinI_comm bs as] at hx
              have e : x = .tup ((joinI as bs).map D.int) ∧ y = .tup ((joinI as bs).map D.int) := by
                match i with
                | 0 => exact ⟨(Option.some.inj hx).symm, (Option.some.inj hy).symm⟩
                | 1 => exact ⟨(Option.some.inj hx).symm, (Option.some.inj hy).symm⟩
                | i + 2 => simp at hx
              rw [e.1, e.2]
              exact alk_ints hj
            · unfold Nx
              simp only [wSeq_nx, wSlT, wNo, wPart, dSlT, dCat, dListT, wFor, iR1, iR2, iTp, iLs, iNw, iLn, wNext, wIf, wRet, wRetN, wDrop, wAsg, gNm, wPar, wVar, wC, wOp, wUn, wTst, wChain, wAnd, wOr, wNot, wAndV, wOrV, wNotV, wIfE, wNil, wCons, wTup, wLst, wNew, wDer, wVL, wVLL, wALL, wCall, wIsa, wRaise, isB, dI0, dI, dU, dLen, dIx, gSubD, setD, wBM, isL, onL, dPopAt, dAppend, wIxV, wEqVL, wEqL, dEqS, dNeS, startD, List.map_cons, List.map_nil, List.length_cons, List.length_nil, List.cons_append, List.nil_append, List.replicate_succ, List.replicate_zero, List.getElem?_cons_zero, List.getElem?_cons_succ, List.set_cons_zero, List.set_cons_succ, Nat.reduceAdd, Nat.reduceSub, Nat.sub_self, kindD, dIsN, dNotN, isaB, String.reduceBEq, Bool.or_false, Bool.false_or, Bool.true_or, Bool.or_true, Bool.and_true, Bool.and_false, Bool.true_and, Bool.false_and, decide_true, decide_false, DL.isNon, if_true, if_false, Bool.not_true, Bool.not_false, Bool.false_eq_true, reduceIte, true_and, and_true, sp_compared, sp_joined, dNe]
              refine ⟨kA _ _ la5.2, kA _ _ (by omega), fun _ as' bs' ea eb' => ?_, fun z => by rw [oab] at z; cases z⟩
              obtain rfl := injI ea
              obtain rfl := injI eb'
              rw [ewd]
              simp only [decide_true, Bool.not_true, Bool.false_eq_true, reduceIte]
              refine ⟨kA _ _ la5.2, kA _ _ la5.2, fun _ as' bs' ea eb' => ?_, fun z => by rw [oaa] at z; cases z⟩
              obtain rfl := injI ea
              obtain rfl := injI eb'
              have same : cmpW as as = "same" := by simp [cmpW]
              rw [same]
              simp only [decide_true, Bool.not_true, Bool.false_eq_true, reduceIte]
              refine ⟨kA _ _ la5.2, kA _ _ la5.2, fun _ as' bs' ea eb' => ?_, fun z => by rw [oaa] at z; cases z⟩
              obtain rfl := injI ea
              obtain rfl := injI eb'
              rw [joinI_self]
              refine ⟨_, _, pyr_ti S2 as, pyr_ti S2 as, shaped_ti as, shaped_ti as, ?_⟩
              rw [show (PyData.tuple (as.map .int)).eqv (.tuple (as.map .int)) = true by simp only [PyData.eqv]; rw [eqvAll_ints]; simp]
              simp only [Bool.not_true, Bool.false_eq_true, reduceIte]
              unfold Nx
              simp only [wSeq_nx, wSlT, wNo, wPart, dSlT, dCat, dListT, wFor, iR1, iR2, iTp, iLs, iNw, iLn, wNext, wIf, wRet, wRetN, wDrop, wAsg, gNm, wPar, wVar, wC, wOp, wUn, wTst, wChain, wAnd, wOr, wNot, wAndV, wOrV, wNotV, wIfE, wNil, wCons, wTup, wLst, wNew, wDer, wVL, wVLL, wALL, wCall, wIsa, wRaise, isB, dI0, dI, dU, dLen, dIx, gSubD, setD, wBM, isL, onL, dPopAt, dAppend, wIxV, wEqVL, wEqL, dEqS, dNeS, startD, List.map_cons, List.map_nil, List.length_cons, List.length_nil, List.cons_append, List.nil_append, List.replicate_succ, List.replicate_zero, List.getElem?_cons_zero, List.getElem?_cons_succ, List.set_cons_zero, List.set_cons_succ, Nat.reduceAdd, Nat.reduceSub, Nat.sub_self, kindD, dIsN, dNotN, isaB, String.reduceBEq, Bool.or_false, Bool.false_or, Bool.true_or, Bool.or_true, Bool.and_true, Bool.and_false, Bool.true_and, Bool.false_and, decide_true, decide_false, DL.isNon, if_true, if_false, Bool.not_true, Bool.not_false, Bool.false_eq_true, reduceIte, true_and, and_true, sp_compared, wDGetC]
              refine ⟨kA _ _ (by omega), kA _ _ la5.2, fun _ as' bs' ea eb' => ?_, fun z => by rw [oba] at z; cases z⟩
              obtain rfl := injI ea
              obtain rfl := injI eb'
              have esw := sw_word (leI as bs) (leI bs as)
              rw [← cmp_word lb.symm, ← cmp_word lb] at esw
              rw [esw]
              simp only [decide_true, Bool.not_true, Bool.false_eq_true, reduceIte]
              clear esw l2 l3
              unfold Nx
              simp only [wSeq_nx, wSlT, wNo, wPart, dSlT, dCat, dListT, wFor, iR1, iR2, iTp, iLs, iNw, iLn, wNext, wIf, wRet, wRetN, wDrop, wAsg, gNm, wPar, wVar, wC, wOp, wUn, wTst, wChain, wAnd, wOr, wNot, wAndV, wOrV, wNotV, wIfE, wNil, wCons, wTup, wLst, wNew, wDer, wVL, wVLL, wALL, wCall, wIsa, wRaise, isB, dI0, dI, dU, dLen, dIx, gSubD, setD, wBM, isL, onL, dPopAt, dAppend, wIxV, wEqVL, wEqL, dEqS, dNeS, startD, List.map_cons, List.map_nil, List.length_cons, List.length_nil, List.cons_append, List.nil_append, List.replicate_succ, List.replicate_zero, List.getElem?_cons_zero, List.getElem?_cons_succ, List.set_cons_zero, List.set_cons_succ, Nat.reduceAdd, Nat.reduceSub, Nat.sub_self, kindD, dIsN, dNotN, isaB, String.reduceBEq, Bool.or_false, Bool.false_or, Bool.true_or, Bool.or_true, Bool.and_true, Bool.and_false, Bool.true_and, Bool.false_and, decide_true, decide_false, DL.isNon, if_true, if_false, Bool.not_true, Bool.not_false, Bool.false_eq_true, reduceIte, true_and, and_true, wLc, sp_take]
              refine ⟨by decide, eb2, ⟨by decide, by decide⟩, fun q q0 q1 => ?_⟩
              obtain ⟨mf, emf, hmf⟩ : ∃ mf : Nat, atI [D.int 1, D.int 6, D.int 0] q = some (.int (mf : Int)) ∧ (mf = 1 ∨ mf = 6 ∨ mf = 0) := by
                have hq : q = 0 ∨ q = 1 ∨ q = 2 := by omega
                rcases hq with rfl | rfl | rfl
                · exact ⟨1, atI0, by simp⟩
                · exact ⟨6, atI1, by simp⟩
                · exact ⟨0, atI2, by simp⟩
              rw [emf]
              simp only [wSeq_nx, wSlT, wNo, wPart, dSlT, dCat, dListT, wFor, iR1, iR2, iTp, iLs, iNw, iLn, wNext, wIf, wRet, wRetN, wDrop, wAsg, gNm, wPar, wVar, wC, wOp, wUn, wTst, wChain, wAnd, wOr, wNot, wAndV, wOrV, wNotV, wIfE, wNil, wCons, wTup, wLst, wNew, wDer, wVL, wVLL, wALL, wCall, wIsa, wRaise, isB, dI0, dI, dU, dLen, dIx, gSubD, setD, wBM, isL, onL, dPopAt, dAppend, wIxV, wEqVL, wEqL, dEqS, dNeS, startD, List.map_cons, List.map_nil, List.length_cons, List.length_nil, List.cons_append, List.nil_append, List.replicate_succ, List.replicate_zero, List.getElem?_cons_zero, List.getElem?_cons_succ, List.set_cons_zero, List.set_cons_succ, Nat.reduceAdd, Nat.reduceSub, Nat.sub_self, kindD, dIsN, dNotN, isaB, String.reduceBEq, Bool.or_false, Bool.false_or, Bool.true_or, Bool.or_true, Bool.and_true, Bool.and_false, Bool.true_and, Bool.false_and, decide_true, decide_false, DL.isNon, if_true, if_false, Bool.not_true, Bool.not_false, Bool.false_eq_true, reduceIte, true_and, and_true]
              refine ⟨by omega, ?_⟩
              refine lcW_rel (fun _ y => ∃ a, y = .int a ∧ True) True.intro (by simp [rngD]; omega) (fun x hx Kt Z k => ?_) fun ys hys hr => ?_
              · simp only [wSeq, wSlT, wNo, wPart, dSlT, dCat, dListT, wFor, iR1, iR2, iTp, iLs, iNw, iLn, wNext, wIf, wRet, wRetN, wDrop, wAsg, gNm, wPar, wVar, wC, wOp, wUn, wTst, wChain, wAnd, wOr, wNot, wAndV, wOrV, wNotV, wIfE, wNil, wCons, wTup, wLst, wNew, wDer, wVL, wVLL, wALL, wCall, wIsa, wRaise, isB, dI0, dI, dU, dLen, dIx, gSubD, setD, wBM, isL, onL, dPopAt, dAppend, wIxV, wEqVL, wEqL, dEqS, dNeS, startD, List.map_cons, List.map_nil, List.length_cons, List.length_nil, List.cons_append, List.nil_append, List.replicate_succ, List.replicate_zero, List.getElem?_cons_zero, List.getElem?_cons_succ, List.set_cons_zero, List.set_cons_succ, Nat.reduceAdd, Nat.reduceSub, Nat.sub_self, kindD, dIsN, dNotN, isaB, String.reduceBEq, Bool.or_false, Bool.false_or, Bool.true_or, Bool.or_true, Bool.and_true, Bool.and_false, Bool.true_and, Bool.false_and, decide_true, decide_false, DL.isNon, if_true, if_false, Bool.not_true, Bool.not_false, Bool.false_eq_true, reduceIte, true_and, and_true, wipeD, wYes, sp_take]
                exact ⟨eb2, ⟨by decide, by decide⟩, fun a a0 a1 => k _ ⟨a, rfl, True.intro⟩⟩
              · obtain ⟨fs, e, -⟩ := ints_of (ys := ys) (P := fun _ => True) fun y hy => by
                  obtain ⟨i, hi⟩ := List.getElem?_of_mem hy
                  have hl : i < (rngD 0 (mf : Int).toNat).length := by rw [← hys]; exact (List.getElem?_eq_some_iff.mp hi).1
                  exact hr i _ y (List.getElem?_eq_getElem hl) hi
                subst e
                have lf : fs.length = mf := by simpa [rngD] using hys
                have off : okB (.tup (fs.map D.int)) (.tup (fs.map D.int)) = false := by
                  unfold okB
                  rcases hmf with z | z | z <;> simp [lf, z]
                have kF : ∀ S : Store, kOks S (.tup (fs.map D.int)) := fun S => kOks_tup (by simp; omega) kOk_ints
                clear hr hys
                simp only [wSeq_nx, wSlT, wNo, wPart, dSlT, dCat, dListT, wFor, iR1, iR2, iTp, iLs, iNw, iLn, wNext, wIf, wRet, wRetN, wDrop, wAsg, gNm, wPar, wVar, wC, wOp, wUn, wTst, wChain, wAnd, wOr, wNot, wAndV, wOrV, wNotV, wIfE, wNil, wCons, wTup, wLst, wNew, wDer, wVL, wVLL, wALL, wCall, wIsa, wRaise, isB, dI0, dI, dU, dLen, dIx, gSubD, setD, wBM, isL, onL, dPopAt, dAppend, wIxV, wEqVL, wEqL, dEqS, dNeS, startD, List.map_cons, List.map_nil, List.length_cons, List.length_nil, List.cons_append, List.nil_append, List.replicate_succ, List.replicate_zero, List.getElem?_cons_zero, List.getElem?_cons_succ, List.set_cons_zero, List.set_cons_succ, Nat.reduceAdd, Nat.reduceSub, Nat.sub_self, kindD, dIsN, dNotN, isaB, String.reduceBEq, Bool.or_false, Bool.false_or, Bool.true_or, Bool.or_true, Bool.and_true, Bool.and_false, Bool.true_and, Bool.false_and, decide_true, decide_false, DL.isNon, if_true, if_false, Bool.not_true, Bool.not_false, Bool.false_eq_true, reduceIte, true_and, and_true, dTupOf]
                unfold Nx
                simp only [wSeq_nx, wSlT, wNo, wPart, dSlT, dCat, dListT, wFor, iR1, iR2, iTp, iLs, iNw, iLn, wNext, wIf, wRet, wRetN, wDrop, wAsg, gNm, wPar, wVar, wC, wOp, wUn, wTst, wChain, wAnd, wOr, wNot, wAndV, wOrV, wNotV, wIfE, wNil, wCons, wTup, wLst, wNew, wDer, wVL, wVLL, wALL, wCall, wIsa, wRaise, isB, dI0, dI, dU, dLen, dIx, gSubD, setD, wBM, isL, onL, dPopAt, dAppend, wIxV, wEqVL, wEqL, dEqS, dNeS, startD, List.map_cons, List.map_nil, List.length_cons, List.length_nil, List.cons_append, List.nil_append, List.replicate_succ, List.replicate_zero, List.getElem?_cons_zero, List.getElem?_cons_succ, List.set_cons_zero, List.set_cons_succ, Nat.reduceAdd, Nat.reduceSub, Nat.sub_self, kindD, dIsN, dNotN, isaB, String.reduceBEq, Bool.or_false, Bool.false_or, Bool.true_or, Bool.or_true, Bool.and_true, Bool.and_false, Bool.true_and, Bool.false_and, decide_true, decide_false, DL.isNon, if_true, if_false, Bool.not_true, Bool.not_false, Bool.false_eq_true, reduceIte, true_and, and_true, wCallS, wLam, valsD]
                refine ⟨eP2, eP2, by decide, fun p2 hp2 => ⟨by decide, seal_bad (Ls := [_, _]) hp2 (Le.refl _) n2 (fun q hq => by rw [List.mem_singleton.mp hq]; exact noS_ints fs) (by simp) (by decide) (fun L hL => ?_) ?_⟩⟩
                · rcases List.mem_cons.mp hL with rfl | hL
                  · refine ⟨_, ⟨lamF_by rfl (fun _ _ _ _ _ _ => rfl) (fun h => absurd h (show ¬ (0 : Nat) = 1 by decide)), fun A outer s H E cl f c hr => (dpe_cal c_joined hr (by first | decide | omega) rfl (takes_of rfl rfl rfl rfl) (dpa_cons (dv 0) (dpa_cons (dv 0) dpa_nil)))⟩, ?_⟩
                    simp only [wSeq, wSlT, wNo, wPart, dSlT, dCat, dListT, wFor, iR1, iR2, iTp, iLs, iNw, iLn, wNext, wIf, wRet, wRetN, wDrop, wAsg, gNm, wPar, wVar, wC, wOp, wUn, wTst, wChain, wAnd, wOr, wNot, wAndV, wOrV, wNotV, wIfE, wNil, wCons, wTup, wLst, wNew, wDer, wVL, wVLL, wALL, wCall, wIsa, wRaise, isB, dI0, dI, dU, dLen, dIx, gSubD, setD, wBM, isL, onL, dPopAt, dAppend, wIxV, wEqVL, wEqL, dEqS, dNeS, startD, List.map_cons, List.map_nil, List.length_cons, List.length_nil, List.cons_append, List.nil_append, List.replicate_succ, List.replicate_zero, List.getElem?_cons_zero, List.getElem?_cons_succ, List.set_cons_zero, List.set_cons_succ, Nat.reduceAdd, Nat.reduceSub, Nat.sub_self, kindD, dIsN, dNotN, isaB, String.reduceBEq, Bool.or_false, Bool.false_or, Bool.true_or, Bool.or_true, Bool.and_true, Bool.and_false, Bool.true_and, Bool.false_and, decide_true, decide_false, DL.isNon, if_true, if_false, Bool.not_true, Bool.not_false, Bool.false_eq_true, reduceIte, true_and, and_true, sp_joined]
                    exact ⟨kF _, kF _, fun z => (by rw [off] at z; cases z), fun _ => (by first | trivial | exact ⟨rfl, rfl⟩)⟩
                  · obtain rfl := List.mem_singleton.mp hL
                    refine ⟨_, ⟨lamF_by rfl (fun h => absurd h (List.cons_ne_nil _ _)) (fun _ => ⟨"_law_a", rfl, fun _ _ _ _ _ _ => ⟨_, rfl, fun _ => rfl⟩⟩), fun A outer s H E cl f c hr => (dpe_cal c_compared hr (by first | decide | omega) rfl (takes_of rfl rfl rfl rfl) (dpa_cons (dv 0) (dpa_cons (dv 0) dpa_nil)))⟩, ?_⟩
                    simp only [wSeq, wSlT, wNo, wPart, dSlT, dCat, dListT, wFor, iR1, iR2, iTp, iLs, iNw, iLn, wNext, wIf, wRet, wRetN, wDrop, wAsg, gNm, wPar, wVar, wC, wOp, wUn, wTst, wChain, wAnd, wOr, wNot, wAndV, wOrV, wNotV, wIfE, wNil, wCons, wTup, wLst, wNew, wDer, wVL, wVLL, wALL, wCall, wIsa, wRaise, isB, dI0, dI, dU, dLen, dIx, gSubD, setD, wBM, isL, onL, dPopAt, dAppend, wIxV, wEqVL, wEqL, dEqS, dNeS, startD, List.map_cons, List.map_nil, List.length_cons, List.length_nil, List.cons_append, List.nil_append, List.replicate_succ, List.replicate_zero, List.getElem?_cons_zero, List.getElem?_cons_succ, List.set_cons_zero, List.set_cons_succ, Nat.reduceAdd, Nat.reduceSub, Nat.sub_self, kindD, dIsN, dNotN, isaB, String.reduceBEq, Bool.or_false, Bool.false_or, Bool.true_or, Bool.or_true, Bool.and_true, Bool.and_false, Bool.true_and, Bool.false_and, decide_true, decide_false, DL.isNon, if_true, if_false, Bool.not_true, Bool.not_false, Bool.false_eq_true, reduceIte, true_and, and_true, sp_compared]
                    exact ⟨kF _, kF _, fun z => (by rw [off] at z; cases z), fun _ => (by first | trivial | exact ⟨rfl, rfl⟩)⟩
                · unfold Nx
                  simp only [wSeq_nx, wSlT, wNo, wPart, dSlT, dCat, dListT, wFor, iR1, iR2, iTp, iLs, iNw, iLn, wNext, wIf, wRet, wRetN, wDrop, wAsg, gNm, wPar, wVar, wC, wOp, wUn, wTst, wChain, wAnd, wOr, wNot, wAndV, wOrV, wNotV, wIfE, wNil, wCons, wTup, wLst, wNew, wDer, wVL, wVLL, wALL, wCall, wIsa, wRaise, isB, dI0, dI, dU, dLen, dIx, gSubD, setD, wBM, isL, onL, dPopAt, dAppend, wIxV, wEqVL, wEqL, dEqS, dNeS, startD, List.map_cons, List.map_nil, List.length_cons, List.length_nil, List.cons_append, List.nil_append, List.replicate_succ, List.replicate_zero, List.getElem?_cons_zero, List.getElem?_cons_succ, List.set_cons_zero, List.set_cons_succ, Nat.reduceAdd, Nat.reduceSub, Nat.sub_self, kindD, dIsN, dNotN, isaB, String.reduceBEq, Bool.or_false, Bool.false_or, Bool.true_or, Bool.or_true, Bool.and_true, Bool.and_false, Bool.true_and, Bool.false_and, decide_true, decide_false, DL.isNon, if_true, if_false, Bool.not_true, Bool.not_false, Bool.false_eq_true, reduceIte, true_and, and_true, sp_lodd]
                  refine ⟨as, rfl, eb2, la5.1, la5.2, ga, fun od S3 hod => ?_⟩
                  obtain ⟨hS3, kod, nod, ok1, ok2⟩ := hod
                  have eb3 : S3 b = some .box := by
                    rcases hS3 with rfl | ⟨l, ds, hl, -, rfl⟩
                    · exact eb2
                    · rw [sup_ne (sne eb2 hl)]; exact eb2
                  have eP3 : S3 PT = some (.tab "law.<locals>.<lambda>") := by
                    rcases hS3 with rfl | ⟨l, ds, hl, -, rfl⟩
                    · exact eP2
                    · rw [sup_ne (sne eP2 hl)]; exact eP2
                  have n3 : NoSS S3 := by
                    rcases hS3 with rfl | ⟨l, ds, hl, hn, rfl⟩
                    · exact n2
                    · exact n2.sup hn
                  clear hS3
                  unfold Nx
                  simp only [wSeq_nx, wSlT, wNo, wPart, dSlT, dCat, dListT, wFor, iR1, iR2, iTp, iLs, iNw, iLn, wNext, wIf, wRet, wRetN, wDrop, wAsg, gNm, wPar, wVar, wC, wOp, wUn, wTst, wChain, wAnd, wOr, wNot, wAndV, wOrV, wNotV, wIfE, wNil, wCons, wTup, wLst, wNew, wDer, wVL, wVLL, wALL, wCall, wIsa, wRaise, isB, dI0, dI, dU, dLen, dIx, gSubD, setD, wBM, isL, onL, dPopAt, dAppend, wIxV, wEqVL, wEqL, dEqS, dNeS, startD, List.map_cons, List.map_nil, List.length_cons, List.length_nil, List.cons_append, List.nil_append, List.replicate_succ, List.replicate_zero, List.getElem?_cons_zero, List.getElem?_cons_succ, List.set_cons_zero, List.set_cons_succ, Nat.reduceAdd, Nat.reduceSub, Nat.sub_self, kindD, dIsN, dNotN, isaB, String.reduceBEq, Bool.or_false, Bool.false_or, Bool.true_or, Bool.or_true, Bool.and_true, Bool.and_false, Bool.true_and, Bool.false_and, decide_true, decide_false, DL.isNon, if_true, if_false, Bool.not_true, Bool.not_false, Bool.false_eq_true, reduceIte, true_and, and_true, wLam]
                  refine ⟨eP3, eP3, eP3, by decide, fun p3 hp3 => ?_⟩
                  unfold Nx
                  simp only [wSeq_nx, wSlT, wNo, wPart, dSlT, dCat, dListT, wFor, iR1, iR2, iTp, iLs, iNw, iLn, wNext, wIf, wRet, wRetN, wDrop, wAsg, gNm, wPar, wVar, wC, wOp, wUn, wTst, wChain, wAnd, wOr, wNot, wAndV, wOrV, wNotV, wIfE, wNil, wCons, wTup, wLst, wNew, wDer, wVL, wVLL, wALL, wCall, wIsa, wRaise, isB, dI0, dI, dU, dLen, dIx, gSubD, setD, wBM, isL, onL, dPopAt, dAppend, wIxV, wEqVL, wEqL, dEqS, dNeS, startD, List.map_cons, List.map_nil, List.length_cons, List.length_nil, List.cons_append, List.nil_append, List.replicate_succ, List.replicate_zero, List.getElem?_cons_zero, List.getElem?_cons_succ, List.set_cons_zero, List.set_cons_succ, Nat.reduceAdd, Nat.reduceSub, Nat.sub_self, kindD, dIsN, dNotN, isaB, String.reduceBEq, Bool.or_false, Bool.false_or, Bool.true_or, Bool.or_true, Bool.and_true, Bool.and_false, Bool.true_and, Bool.false_and, decide_true, decide_false, DL.isNon, if_true, if_false, Bool.not_true, Bool.not_false, Bool.false_eq_true, reduceIte, true_and, and_true, wCallS, wLam, valsD, wCatV, sup_same]
                  refine ⟨by rw [sup_ne (sne eP3 hp3)]; exact eP3, by decide, by decide, fun p4 hp4 => ⟨by decide, seal_bad (Ls := [_, _, _, _]) hp4 ((Le.refl S3).sup hp3) n3 (fun q hq => ?_) (by simp) (by decide) (fun L hL => ?_) ?_⟩⟩
                  · rcases List.mem_cons.mp hq with rfl | hq
                    · exact noS_ints as
                    · rw [List.mem_singleton.mp hq]; exact nod
                  · have kas := kA S3 as la5.2
                    rcases List.mem_cons.mp hL with rfl | hL
                    · refine ⟨_, ⟨lamF_by rfl (fun _ _ _ _ _ _ => rfl) (fun h => absurd h (show ¬ (0 : Nat) = 1 by decide)), fun A outer s H E cl f c hr => (dpe_cal c_joined hr (by first | decide | omega) rfl (takes_of rfl rfl rfl rfl) (dpa_cons (dv 0) (dpa_cons (dv 1) dpa_nil)))⟩, ?_⟩
                      simp only [wSeq, wSlT, wNo, wPart, dSlT, dCat, dListT, wFor, iR1, iR2, iTp, iLs, iNw, iLn, wNext, wIf, wRet, wRetN, wDrop, wAsg, gNm, wPar, wVar, wC, wOp, wUn, wTst, wChain, wAnd, wOr, wNot, wAndV, wOrV, wNotV, wIfE, wNil, wCons, wTup, wLst, wNew, wDer, wVL, wVLL, wALL, wCall, wIsa, wRaise, isB, dI0, dI, dU, dLen, dIx, gSubD, setD, wBM, isL, onL, dPopAt, dAppend, wIxV, wEqVL, wEqL, dEqS, dNeS, startD, List.map_cons, List.map_nil, List.length_cons, List.length_nil, List.cons_append, List.nil_append, List.replicate_succ, List.replicate_zero, List.getElem?_cons_zero, List.getElem?_cons_succ, List.set_cons_zero, List.set_cons_succ, Nat.reduceAdd, Nat.reduceSub, Nat.sub_self, kindD, dIsN, dNotN, isaB, String.reduceBEq, Bool.or_false, Bool.false_or, Bool.true_or, Bool.or_true, Bool.and_true, Bool.and_false, Bool.true_and, Bool.false_and, decide_true, decide_false, DL.isNon, if_true, if_false, Bool.not_true, Bool.not_false, Bool.false_eq_true, reduceIte, true_and, and_true, sp_joined]
                      exact ⟨kas, kod, fun z => (by rw [ok1] at z; cases z), fun _ => (by first | trivial | exact ⟨rfl, rfl⟩)⟩
                    · rcases List.mem_cons.mp hL with rfl | hL
                      · refine ⟨_, ⟨lamF_by rfl (fun h => absurd h (List.cons_ne_nil _ _)) (fun _ => ⟨"_law_a", rfl, fun _ _ _ _ _ _ => ⟨_, rfl, fun _ => rfl⟩⟩), fun A outer s H E cl f c hr => (dpe_cal c_compared hr (by first | decide | omega) rfl (takes_of rfl rfl rfl rfl) (dpa_cons (dv 0) (dpa_cons (dv 1) dpa_nil)))⟩, ?_⟩
                        simp only [wSeq, wSlT, wNo, wPart, dSlT, dCat, dListT, wFor, iR1, iR2, iTp, iLs, iNw, iLn, wNext, wIf, wRet, wRetN, wDrop, wAsg, gNm, wPar, wVar, wC, wOp, wUn, wTst, wChain, wAnd, wOr, wNot, wAndV, wOrV, wNotV, wIfE, wNil, wCons, wTup, wLst, wNew, wDer, wVL, wVLL, wALL, wCall, wIsa, wRaise, isB, dI0, dI, dU, dLen, dIx, gSubD, setD, wBM, isL, onL, dPopAt, dAppend, wIxV, wEqVL, wEqL, dEqS, dNeS, startD, List.map_cons, List.map_nil, List.length_cons, List.length_nil, List.cons_append, List.nil_append, List.replicate_succ, List.replicate_zero, List.getElem?_cons_zero, List.getElem?_cons_succ, List.set_cons_zero, List.set_cons_succ, Nat.reduceAdd, Nat.reduceSub, Nat.sub_self, kindD, dIsN, dNotN, isaB, String.reduceBEq, Bool.or_false, Bool.false_or, Bool.true_or, Bool.or_true, Bool.and_true, Bool.and_false, Bool.true_and, Bool.false_and, decide_true, decide_false, DL.isNon, if_true, if_false, Bool.not_true, Bool.not_false, Bool.false_eq_true, reduceIte, true_and, and_true, sp_compared]
                        exact ⟨kas, kod, fun z => (by rw [ok1] at z; cases z), fun _ => (by first | trivial | exact ⟨rfl, rfl⟩)⟩
                      · rcases List.mem_cons.mp hL with rfl | hL
                        · refine ⟨_, ⟨lamF_by rfl (fun h => absurd h (List.cons_ne_nil _ _)) (fun _ => ⟨"_law_b", rfl, fun _ _ _ _ _ _ => ⟨_, rfl, fun _ => rfl⟩⟩), fun A outer s H E cl f c hr => (dpe_cal c_compared hr (by first | decide | omega) rfl (takes_of rfl rfl rfl rfl) (dpa_cons (dv 1) (dpa_cons (dv 0) dpa_nil)))⟩, ?_⟩
                          simp only [wSeq, wSlT, wNo, wPart, dSlT, dCat, dListT, wFor, iR1, iR2, iTp, iLs, iNw, iLn, wNext, wIf, wRet, wRetN, wDrop, wAsg, gNm, wPar, wVar, wC, wOp, wUn, wTst, wChain, wAnd, wOr, wNot, wAndV, wOrV, wNotV, wIfE, wNil, wCons, wTup, wLst, wNew, wDer, wVL, wVLL, wALL, wCall, wIsa, wRaise, isB, dI0, dI, dU, dLen, dIx, gSubD, setD, wBM, isL, onL, dPopAt, dAppend, wIxV, wEqVL, wEqL, dEqS, dNeS, startD, List.map_cons, List.map_nil, List.length_cons, List.length_nil, List.cons_append, List.nil_append, List.replicate_succ, List.replicate_zero, List.getElem?_cons_zero, List.getElem?_cons_succ, List.set_cons_zero, List.set_cons_succ, Nat.reduceAdd, Nat.reduceSub, Nat.sub_self, kindD, dIsN, dNotN, isaB, String.reduceBEq, Bool.or_false, Bool.false_or, Bool.true_or, Bool.or_true, Bool.and_true, Bool.and_false, Bool.true_and, Bool.false_and, decide_true, decide_false, DL.isNon, if_true, if_false, Bool.not_true, Bool.not_false, Bool.false_eq_true, reduceIte, true_and, and_true, sp_compared]
                          exact ⟨kod, kas, fun z => (by rw [ok2] at z; cases z), fun _ => (by first | trivial | exact ⟨rfl, rfl⟩)⟩
                        · obtain rfl := List.mem_singleton.mp hL
                          refine ⟨_, ⟨lamF_by rfl (fun h => absurd h (List.cons_ne_nil _ _)) (fun _ => ⟨"_law_c", rfl, fun _ _ _ _ _ _ => ⟨_, rfl, fun _ => rfl⟩⟩), fun A outer s H E cl f c hr => (dpe_cal c_joined hr (by first | decide | omega) rfl (takes_of rfl rfl rfl rfl) (dpa_cons (dv 1) (dpa_cons (dv 0) dpa_nil)))⟩, ?_⟩
                          simp only [wSeq, wSlT, wNo, wPart, dSlT, dCat, dListT, wFor, iR1, iR2, iTp, iLs, iNw, iLn, wNext, wIf, wRet, wRetN, wDrop, wAsg, gNm, wPar, wVar, wC, wOp, wUn, wTst, wChain, wAnd, wOr, wNot, wAndV, wOrV, wNotV, wIfE, wNil, wCons, wTup, wLst, wNew, wDer, wVL, wVLL, wALL, wCall, wIsa, wRaise, isB, dI0, dI, dU, dLen, dIx, gSubD, setD, wBM, isL, onL, dPopAt, dAppend, wIxV, wEqVL, wEqL, dEqS, dNeS, startD, List.map_cons, List.map_nil, List.length_cons, List.length_nil, List.cons_append, List.nil_append, List.replicate_succ, List.replicate_zero, List.getElem?_cons_zero, List.getElem?_cons_succ, List.set_cons_zero, List.set_cons_succ, Nat.reduceAdd, Nat.reduceSub, Nat.sub_self, kindD, dIsN, dNotN, isaB, String.reduceBEq, Bool.or_false, Bool.false_or, Bool.true_or, Bool.or_true, Bool.and_true, Bool.and_false, Bool.true_and, Bool.false_and, decide_true, decide_false, DL.isNon, if_true, if_false, Bool.not_true, Bool.not_false, Bool.false_eq_true, reduceIte, true_and, and_true, sp_joined]
                          exact ⟨kod, kas, fun z => (by rw [ok2] at z; cases z), fun _ => (by first | trivial | exact ⟨rfl, rfl⟩)⟩
                  · simp only [wSeq_nx, wSlT, wNo, wPart, dSlT, dCat, dListT, wFor, iR1, iR2, iTp, iLs, iNw, iLn, wNext, wIf, wRet, wRetN, wDrop, wAsg, gNm, wPar, wVar, wC, wOp, wUn, wTst, wChain, wAnd, wOr, wNot, wAndV, wOrV, wNotV, wIfE, wNil, wCons, wTup, wLst, wNew, wDer, wVL, wVLL, wALL, wCall, wIsa, wRaise, isB, dI0, dI, dU, dLen, dIx, gSubD, setD, wBM, isL, onL, dPopAt, dAppend, wIxV, wEqVL, wEqL, dEqS, dNeS, startD, List.map_cons, List.map_nil, List.length_cons, List.length_nil, List.cons_append, List.nil_append, List.replicate_succ, List.replicate_zero, List.getElem?_cons_zero, List.getElem?_cons_succ, List.set_cons_zero, List.set_cons_succ, Nat.reduceAdd, Nat.reduceSub, Nat.sub_self, kindD, dIsN, dNotN, isaB, String.reduceBEq, Bool.or_false, Bool.false_or, Bool.true_or, Bool.or_true, Bool.and_true, Bool.and_false, Bool.true_and, Bool.false_and, decide_true, decide_false, DL.isNon, if_true, if_false, Bool.not_true, Bool.not_false, Bool.false_eq_true, reduceIte, true_and, and_true]
                    exact nx _ _ ⟨⟨_, _, _, _, _, _, _, _, _, _, _, rfl⟩, eb3, eP3, n3⟩
          have hw := cmp_word lb.symm
          rcases Bool.eq_false_or_eq_true (leI as bs) with q1 | q1 <;> rcases Bool.eq_false_or_eq_true (leI bs as) with q2 | q2 <;> rw [q1, q2] at hw <;> simp only [q1, q2, reduceIte, Bool.false_eq_true] at key ⊢ <;> exact key _ hw.symm
    · exact h.elim
structure Defs (K : PySem.W.Frag) (mg : Str → Option Value) : Prop where
  d_is_number : Def K mg "is_number" s_is_number ["part", "low", "high"]
  d_is_token : Def K mg "is_token" s_is_token ["token", "many"]
  d_need_token : Def K mg "need_token" s_need_token ["token", "many"]
  d_join : Def K mg "join" s_join ["one", "other"]
  d_is_within : Def K mg "is_within" s_is_within ["one", "other"]
  d_need_both : Def K mg "need_both" s_need_both ["one", "other"]
  d_joined : Def K mg "joined" s_joined ["one", "other"]
  d_compared : Def K mg "compared" s_compared ["one", "other"]
  d__law_begun : Def K mg "_law_begun" s__law_begun ["_law_script"]
  d__law_take : Def K mg "_law_take" s__law_take ["_law_box", "_law_many"]
  d__law_alike : Def K mg "_law_alike" s__law_alike ["_law_found", "_law_due"]
  d__law_told : Def K mg "_law_told" s__law_told ["_law_work"]
  d__law_all : Def K mg "_law_all" s__law_all ["_law_works", "_law_due"]
  d__law_within : Def K mg "_law_within" s__law_within ["_law_one", "_law_other"]
  d__law_join : Def K mg "_law_join" s__law_join ["_law_one", "_law_other"]
  d__law_token : Def K mg "_law_token" s__law_token ["_law_box", "_law_many"]
  d__law_odd : Def K mg "_law_odd" s__law_odd ["_law_box", "_law_one"]
theorem calls_mk (D : Defs K mg) (T : Txt K mg) (ER : ErrK K mg ["BadToken"]) : Calls P w K mg base := by
  have t1 := ok_is_number (P := P) (w := w) (base := base) D.d_is_number T
  have t2 := ok_is_token D.d_is_token T t1
  have t3 := ok_need_token D.d_need_token T t2
  have t4 := ok_need_both D.d_need_both T t3
  have j := ok_join (P := P) (w := w) (base := base) D.d_join T
  have i := ok_is_within (P := P) (w := w) (base := base) D.d_is_within T
  have tk := ok_take (P := P) (w := w) (base := base) D.d__law_take T
  have al := ok_alike (P := P) (w := w) (base := base) D.d__law_alike T
  have td := ok_told (P := P) (w := w) (base := base) ["BadToken"] (fun nm h => by rw [List.mem_singleton.mp h]; decide) 8 D.d__law_told T ER
  exact { c_joined := ok_joined D.d_joined T t4 j, c_compared := ok_compared D.d_compared T t4 i, c__law_begun := begun_close (okO_begun D.d__law_begun T), c__law_take := tk, c__law_token := ok_ltoken D.d__law_token T tk, c__law_within := ok_lwithin D.d__law_within T, c__law_join := ok_ljoin D.d__law_join T, c__law_alike := al 4, c__law_all := ok_all ["BadToken"] 8 4 D.d__law_all T td (al 4), c__law_odd := ok_lodd D.d__law_odd T tk }
theorem law_start {K : PySem.W.Frag} {H : Hp} {mg : Str → Option Value} {PT a : Addr} {ns : List Int} (hl : ns.length ≤ 63) (hT : H PT = some (.tbl #[])) (hS : SqL K H a (ns.map V.int)) : upSp K mg (sp_law PT) [.ref a] H (fun v _ => v = .bl true) (fun _ _ _ => False) :=
  ints_start hT hS fun d S hi hP nS => ⟨ns, hi, hl, hP, nS, fun _ => rfl⟩
theorem all_mk {l : PySem.W.OpenLaw} {w : World} {K : PySem.W.Frag} {mg : Str → Option Value} {fa : Addr} {h : Heap} {f0 : Addr} {oc0 kV0 dc0 pm0 cd0 ct0 : Value} {od0 an0 : Option Addr} {sl0 : Array (Option Value)} {f1 : Addr} {oc1 kV1 dc1 pm1 cd1 ct1 : Value} {od1 an1 : Option Addr} {sl1 : Array (Option Value)} {f2 : Addr} {oc2 kV2 dc2 pm2 cd2 ct2 : Value} {od2 an2 : Option Addr} {sl2 : Array (Option Value)} {f3 : Addr} {oc3 kV3 dc3 pm3 cd3 ct3 : Value} {od3 an3 : Option Addr} {sl3 : Array (Option Value)} {f4 : Addr} {oc4 kV4 dc4 pm4 cd4 ct4 : Value} {od4 an4 : Option Addr} {sl4 : Array (Option Value)} {f5 : Addr} {oc5 kV5 dc5 pm5 cd5 ct5 : Value} {od5 an5 : Option Addr} {sl5 : Array (Option Value)} {f6 : Addr} {oc6 kV6 dc6 pm6 cd6 ct6 : Value} {od6 an6 : Option Addr} {sl6 : Array (Option Value)} {f7 : Addr} {oc7 kV7 dc7 pm7 cd7 ct7 : Value} {od7 an7 : Option Addr} {sl7 : Array (Option Value)} {f8 : Addr} {oc8 kV8 dc8 pm8 cd8 ct8 : Value} {od8 an8 : Option Addr} {sl8 : Array (Option Value)} {f9 : Addr} {oc9 kV9 dc9 pm9 cd9 ct9 : Value} {od9 an9 : Option Addr} {sl9 : Array (Option Value)} {f10 : Addr} {oc10 kV10 dc10 pm10 cd10 ct10 : Value} {od10 an10 : Option Addr} {sl10 : Array (Option Value)} {f11 : Addr} {oc11 kV11 dc11 pm11 cd11 ct11 : Value} {od11 an11 : Option Addr} {sl11 : Array (Option Value)} {f12 : Addr} {oc12 kV12 dc12 pm12 cd12 ct12 : Value} {od12 an12 : Option Addr} {sl12 : Array (Option Value)} {f13 : Addr} {oc13 kV13 dc13 pm13 cd13 ct13 : Value} {od13 an13 : Option Addr} {sl13 : Array (Option Value)} {f14 : Addr} {oc14 kV14 dc14 pm14 cd14 ct14 : Value} {od14 an14 : Option Addr} {sl14 : Array (Option Value)} {f15 : Addr} {oc15 kV15 dc15 pm15 cd15 ct15 : Value} {od15 an15 : Option Addr} {sl15 : Array (Option Value)} {f16 : Addr} {oc16 kV16 dc16 pm16 cd16 ct16 : Value} {od16 an16 : Option Addr} {sl16 : Array (Option Value)} {fL cc PT : Addr} {ocL kVL dcL pmL ctL : Value} {odL anL ddc : Option Addr} {slL slc : Array (Option Value)} {vsc : Array Value} {file : Str} {tf tg tt : Tok} {flags text : Int} {inF : Bool} {t_LEAST_SITES : Tok} {t_MOST_PUTS : Tok} {t_MOST_SITES : Tok} {CP : Addr} {E_BadCount : Addr} {E_BadKey : Addr} {E_BadLogs : Addr} {E_BadNow : Addr} {E_BadRules : Addr} {E_BadSite : Addr} {E_BadText : Addr} {E_BadToken : Addr} {E_BadWants : Addr} {E_BadWorth : Addr} {E_NotYet : Addr} {E_Stale : Addr} (X : K.In h) (G : h.Ns mainGlobals mg) (hfa : mg "law" = some (.ref fa)) (OT : h.get? PT = some { cls := .none, data := .fields #[] })
    (a0 : PySem.W.nsIn K mainGlobals "is_number" = some (some (.ref f0)))
    (l0 : K.lookup f0 = some ⟨oc0, od0, .func (PySem.W.fnOf "is_number" "is_number" (defArgs s_is_number) (defBody s_is_number) (defScope s_is_number) .none kV0 dc0 pm0 an0 cd0 ct0), sl0⟩)
    (c0 : PySem.W.codeIn K cd0 "is_number" = true)
    (k0 : PySem.W.keepIn K (.ref f0) = true)
    (a1 : PySem.W.nsIn K mainGlobals "is_token" = some (some (.ref f1)))
    (l1 : K.lookup f1 = some ⟨oc1, od1, .func (PySem.W.fnOf "is_token" "is_token" (defArgs s_is_token) (defBody s_is_token) (defScope s_is_token) .none kV1 dc1 pm1 an1 cd1 ct1), sl1⟩)
    (c1 : PySem.W.codeIn K cd1 "is_token" = true)
    (k1 : PySem.W.keepIn K (.ref f1) = true)
    (a2 : PySem.W.nsIn K mainGlobals "need_token" = some (some (.ref f2)))
    (l2 : K.lookup f2 = some ⟨oc2, od2, .func (PySem.W.fnOf "need_token" "need_token" (defArgs s_need_token) (defBody s_need_token) (defScope s_need_token) .none kV2 dc2 pm2 an2 cd2 ct2), sl2⟩)
    (c2 : PySem.W.codeIn K cd2 "need_token" = true)
    (k2 : PySem.W.keepIn K (.ref f2) = true)
    (a3 : PySem.W.nsIn K mainGlobals "join" = some (some (.ref f3)))
    (l3 : K.lookup f3 = some ⟨oc3, od3, .func (PySem.W.fnOf "join" "join" (defArgs s_join) (defBody s_join) (defScope s_join) .none kV3 dc3 pm3 an3 cd3 ct3), sl3⟩)
    (c3 : PySem.W.codeIn K cd3 "join" = true)
    (k3 : PySem.W.keepIn K (.ref f3) = true)
    (a4 : PySem.W.nsIn K mainGlobals "is_within" = some (some (.ref f4)))
    (l4 : K.lookup f4 = some ⟨oc4, od4, .func (PySem.W.fnOf "is_within" "is_within" (defArgs s_is_within) (defBody s_is_within) (defScope s_is_within) .none kV4 dc4 pm4 an4 cd4 ct4), sl4⟩)
    (c4 : PySem.W.codeIn K cd4 "is_within" = true)
    (k4 : PySem.W.keepIn K (.ref f4) = true)
    (a5 : PySem.W.nsIn K mainGlobals "need_both" = some (some (.ref f5)))
    (l5 : K.lookup f5 = some ⟨oc5, od5, .func (PySem.W.fnOf "need_both" "need_both" (defArgs s_need_both) (defBody s_need_both) (defScope s_need_both) .none kV5 dc5 pm5 an5 cd5 ct5), sl5⟩)
    (c5 : PySem.W.codeIn K cd5 "need_both" = true)
    (k5 : PySem.W.keepIn K (.ref f5) = true)
    (a6 : PySem.W.nsIn K mainGlobals "joined" = some (some (.ref f6)))
    (l6 : K.lookup f6 = some ⟨oc6, od6, .func (PySem.W.fnOf "joined" "joined" (defArgs s_joined) (defBody s_joined) (defScope s_joined) .none kV6 dc6 pm6 an6 cd6 ct6), sl6⟩)
    (c6 : PySem.W.codeIn K cd6 "joined" = true)
    (k6 : PySem.W.keepIn K (.ref f6) = true)
    (a7 : PySem.W.nsIn K mainGlobals "compared" = some (some (.ref f7)))
    (l7 : K.lookup f7 = some ⟨oc7, od7, .func (PySem.W.fnOf "compared" "compared" (defArgs s_compared) (defBody s_compared) (defScope s_compared) .none kV7 dc7 pm7 an7 cd7 ct7), sl7⟩)
    (c7 : PySem.W.codeIn K cd7 "compared" = true)
    (k7 : PySem.W.keepIn K (.ref f7) = true)
    (a8 : PySem.W.nsIn K mainGlobals "_law_begun" = some (some (.ref f8)))
    (l8 : K.lookup f8 = some ⟨oc8, od8, .func (PySem.W.fnOf "_law_begun" "_law_begun" (defArgs s__law_begun) (defBody s__law_begun) (defScope s__law_begun) .none kV8 dc8 pm8 an8 cd8 ct8), sl8⟩)
    (c8 : PySem.W.codeIn K cd8 "_law_begun" = true)
    (k8 : PySem.W.keepIn K (.ref f8) = true)
    (a9 : PySem.W.nsIn K mainGlobals "_law_take" = some (some (.ref f9)))
    (l9 : K.lookup f9 = some ⟨oc9, od9, .func (PySem.W.fnOf "_law_take" "_law_take" (defArgs s__law_take) (defBody s__law_take) (defScope s__law_take) .none kV9 dc9 pm9 an9 cd9 ct9), sl9⟩)
    (c9 : PySem.W.codeIn K cd9 "_law_take" = true)
    (k9 : PySem.W.keepIn K (.ref f9) = true)
    (a10 : PySem.W.nsIn K mainGlobals "_law_alike" = some (some (.ref f10)))
    (l10 : K.lookup f10 = some ⟨oc10, od10, .func (PySem.W.fnOf "_law_alike" "_law_alike" (defArgs s__law_alike) (defBody s__law_alike) (defScope s__law_alike) .none kV10 dc10 pm10 an10 cd10 ct10), sl10⟩)
    (c10 : PySem.W.codeIn K cd10 "_law_alike" = true)
    (k10 : PySem.W.keepIn K (.ref f10) = true)
    (a11 : PySem.W.nsIn K mainGlobals "_law_told" = some (some (.ref f11)))
    (l11 : K.lookup f11 = some ⟨oc11, od11, .func (PySem.W.fnOf "_law_told" "_law_told" (defArgs s__law_told) (defBody s__law_told) (defScope s__law_told) .none kV11 dc11 pm11 an11 cd11 ct11), sl11⟩)
    (c11 : PySem.W.codeIn K cd11 "_law_told" = true)
    (k11 : PySem.W.keepIn K (.ref f11) = true)
    (a12 : PySem.W.nsIn K mainGlobals "_law_all" = some (some (.ref f12)))
    (l12 : K.lookup f12 = some ⟨oc12, od12, .func (PySem.W.fnOf "_law_all" "_law_all" (defArgs s__law_all) (defBody s__law_all) (defScope s__law_all) .none kV12 dc12 pm12 an12 cd12 ct12), sl12⟩)
    (c12 : PySem.W.codeIn K cd12 "_law_all" = true)
    (k12 : PySem.W.keepIn K (.ref f12) = true)
    (a13 : PySem.W.nsIn K mainGlobals "_law_within" = some (some (.ref f13)))
    (l13 : K.lookup f13 = some ⟨oc13, od13, .func (PySem.W.fnOf "_law_within" "_law_within" (defArgs s__law_within) (defBody s__law_within) (defScope s__law_within) .none kV13 dc13 pm13 an13 cd13 ct13), sl13⟩)
    (c13 : PySem.W.codeIn K cd13 "_law_within" = true)
    (k13 : PySem.W.keepIn K (.ref f13) = true)
    (a14 : PySem.W.nsIn K mainGlobals "_law_join" = some (some (.ref f14)))
    (l14 : K.lookup f14 = some ⟨oc14, od14, .func (PySem.W.fnOf "_law_join" "_law_join" (defArgs s__law_join) (defBody s__law_join) (defScope s__law_join) .none kV14 dc14 pm14 an14 cd14 ct14), sl14⟩)
    (c14 : PySem.W.codeIn K cd14 "_law_join" = true)
    (k14 : PySem.W.keepIn K (.ref f14) = true)
    (a15 : PySem.W.nsIn K mainGlobals "_law_token" = some (some (.ref f15)))
    (l15 : K.lookup f15 = some ⟨oc15, od15, .func (PySem.W.fnOf "_law_token" "_law_token" (defArgs s__law_token) (defBody s__law_token) (defScope s__law_token) .none kV15 dc15 pm15 an15 cd15 ct15), sl15⟩)
    (c15 : PySem.W.codeIn K cd15 "_law_token" = true)
    (k15 : PySem.W.keepIn K (.ref f15) = true)
    (a16 : PySem.W.nsIn K mainGlobals "_law_odd" = some (some (.ref f16)))
    (l16 : K.lookup f16 = some ⟨oc16, od16, .func (PySem.W.fnOf "_law_odd" "_law_odd" (defArgs s__law_odd) (defBody s__law_odd) (defScope s__law_odd) .none kV16 dc16 pm16 an16 cd16 ct16), sl16⟩)
    (c16 : PySem.W.codeIn K cd16 "_law_odd" = true)
    (k16 : PySem.W.keepIn K (.ref f16) = true)
    (aL : PySem.W.nsIn K mainGlobals "law" = some (some (.ref fL)))
    (lL : K.lookup fL = some ⟨ocL, odL, .func (PySem.W.fnOf "law" "law" (defArgs s_law) (defBody s_law) (defScope s_law) .none kVL dcL pmL anL (.ref cc) ctL), slL⟩)
    (cL : PySem.W.codeIn K (.ref cc) "law" = true)
    (lc : K.lookup cc = some ⟨.type "code", ddc, .fields vsc, slc⟩)
    (v11 : vsc[11]? = some (.ref PT))
    (w11 : vsc.getD 11 .none = .ref PT)
    (w18 : vsc.getD 18 .none = .str file tf)
    (w7 : vsc.getD 7 .none = .int flags tg)
    (w9 : vsc.getD 9 .none = .bool inF)
    (w10 : vsc.getD 10 .none = .int text tt)
    (cne : cc ≠ PT)
    (nP : K.lookup PT = none)
    (b_any : PySem.W.nsIn K mainGlobals "any" = some none)
    (b_bool : PySem.W.nsIn K mainGlobals "bool" = some none)
    (b_int : PySem.W.nsIn K mainGlobals "int" = some none)
    (b_isinstance : PySem.W.nsIn K mainGlobals "isinstance" = some none)
    (b_len : PySem.W.nsIn K mainGlobals "len" = some none)
    (b_list : PySem.W.nsIn K mainGlobals "list" = some none)
    (b_max : PySem.W.nsIn K mainGlobals "max" = some none)
    (b_range : PySem.W.nsIn K mainGlobals "range" = some none)
    (b_str : PySem.W.nsIn K mainGlobals "str" = some none)
    (b_tuple : PySem.W.nsIn K mainGlobals "tuple" = some none)
    (b_zip : PySem.W.nsIn K mainGlobals "zip" = some none)
    (g_LEAST_SITES : PySem.W.nsIn K mainGlobals "LEAST_SITES" = some (some (.int 2 t_LEAST_SITES)))
    (g_MOST_PUTS : PySem.W.nsIn K mainGlobals "MOST_PUTS" = some (some (.int 999 t_MOST_PUTS)))
    (g_MOST_SITES : PySem.W.nsIn K mainGlobals "MOST_SITES" = some (some (.int 5 t_MOST_SITES)))
    (ePort : PySem.W.nsIn K mainGlobals "PortError" = some (some (.ref CP)))
    (zVal : PySem.W.nsIn K mainGlobals "ValueError" = some none)
    (hn : PySem.W.specialIn K (.builtin "object.__class__") "__get__" = some (some (.builtin "getset_descriptor.__get__")))
    (ht : PySem.W.takesIn K (.builtin "object.__class__") = some true)
    (e_BadCount : PySem.W.nsIn K mainGlobals "BadCount" = some (some (.ref E_BadCount)))
    (e_BadKey : PySem.W.nsIn K mainGlobals "BadKey" = some (some (.ref E_BadKey)))
    (e_BadLogs : PySem.W.nsIn K mainGlobals "BadLogs" = some (some (.ref E_BadLogs)))
    (e_BadNow : PySem.W.nsIn K mainGlobals "BadNow" = some (some (.ref E_BadNow)))
    (e_BadRules : PySem.W.nsIn K mainGlobals "BadRules" = some (some (.ref E_BadRules)))
    (e_BadSite : PySem.W.nsIn K mainGlobals "BadSite" = some (some (.ref E_BadSite)))
    (e_BadText : PySem.W.nsIn K mainGlobals "BadText" = some (some (.ref E_BadText)))
    (e_BadToken : PySem.W.nsIn K mainGlobals "BadToken" = some (some (.ref E_BadToken)))
    (e_BadWants : PySem.W.nsIn K mainGlobals "BadWants" = some (some (.ref E_BadWants)))
    (e_BadWorth : PySem.W.nsIn K mainGlobals "BadWorth" = some (some (.ref E_BadWorth)))
    (e_NotYet : PySem.W.nsIn K mainGlobals "NotYet" = some (some (.ref E_NotYet)))
    (e_Stale : PySem.W.nsIn K mainGlobals "Stale" = some (some (.ref E_Stale)))
    (x_BadToken : PySem.W.excIn K E_BadToken [.type "ValueError", .type "Exception", .type "BaseException", .type "object"] "ValueError.__new__" = true)
    (kp_BadToken : PySem.W.keepIn K (.ref E_BadToken) = true)
    (sb_BadToken : PySem.W.subIn K (.ref E_BadToken) (.type "BaseException") = some true)
    (ty_BadToken : PySem.W.typeIn K (.ref E_BadToken) = some (.type "type"))
    (hg_BadToken : PySem.W.findIn K (.ref E_BadToken) "__getattribute__" = some (some (.builtin "BaseException.__getattribute__")))
    (hk_BadToken : PySem.W.findIn K (.ref E_BadToken) "__getattr__" = some none)
    (ha_BadToken : PySem.W.findIn K (.ref E_BadToken) "__class__" = some (some (.builtin "object.__class__")))
    (hm_BadToken : PySem.W.mroIn K E_BadToken (.type "object") = some true)
    (hd_BadToken : PySem.W.hasDictIn K E_BadToken = true)
    (nsite_BadToken : PySem.W.findIn K (.ref E_BadToken) "site" = some none)
    (nrow_BadToken : PySem.W.findIn K (.ref E_BadToken) "row" = some none)
    (nlacks_BadToken : PySem.W.findIn K (.ref E_BadToken) "lacks" = some none)
    (nby_BadToken : PySem.W.findIn K (.ref E_BadToken) "by" = some none)
    (qBadCount_BadToken : PySem.W.kitOne K (.ref E_BadToken) (.ref E_BadCount) = some false)
    (qBadKey_BadToken : PySem.W.kitOne K (.ref E_BadToken) (.ref E_BadKey) = some false)
    (qBadLogs_BadToken : PySem.W.kitOne K (.ref E_BadToken) (.ref E_BadLogs) = some false)
    (qBadNow_BadToken : PySem.W.kitOne K (.ref E_BadToken) (.ref E_BadNow) = some false)
    (qBadRules_BadToken : PySem.W.kitOne K (.ref E_BadToken) (.ref E_BadRules) = some false)
    (qBadSite_BadToken : PySem.W.kitOne K (.ref E_BadToken) (.ref E_BadSite) = some false)
    (qBadText_BadToken : PySem.W.kitOne K (.ref E_BadToken) (.ref E_BadText) = some false)
    (qBadToken_BadToken : PySem.W.kitOne K (.ref E_BadToken) (.ref E_BadToken) = some true)
    (qBadWants_BadToken : PySem.W.kitOne K (.ref E_BadToken) (.ref E_BadWants) = some false)
    (qBadWorth_BadToken : PySem.W.kitOne K (.ref E_BadToken) (.ref E_BadWorth) = some false)
    (qNotYet_BadToken : PySem.W.kitOne K (.ref E_BadToken) (.ref E_NotYet) = some false)
    (qStale_BadToken : PySem.W.kitOne K (.ref E_BadToken) (.ref E_Stale) = some false)
    (qV_BadToken : PySem.W.kitOne K (.ref E_BadToken) (.type "ValueError") = some true)
    (qP_BadToken : PySem.W.exmOne K (.ref E_BadToken) (.ref CP) = some true) :
    LamX.LawAtS l w K (L2.CX l.prog w) 17 63 "_law_script" mg fa h := by
  have eL := hfa.symm.trans (PySem.W.mg_of X G aL)
  cases eL
  have D : Defs K mg := {
    d_is_number := ⟨_, _, fun_mk (st := s_is_number) l0 c0 k0, PySem.W.mg_of X G a0, (fun_mk (st := s_is_number) l0 c0 k0).binds fun _ _ _ _ _ _ us hl => match us, hl with | [_, _, _], _ => rfl⟩
    d_is_token := ⟨_, _, fun_mk (st := s_is_token) l1 c1 k1, PySem.W.mg_of X G a1, (fun_mk (st := s_is_token) l1 c1 k1).binds fun _ _ _ _ _ _ us hl => match us, hl with | [_, _], _ => rfl⟩
    d_need_token := ⟨_, _, fun_mk (st := s_need_token) l2 c2 k2, PySem.W.mg_of X G a2, (fun_mk (st := s_need_token) l2 c2 k2).binds fun _ _ _ _ _ _ us hl => match us, hl with | [_, _], _ => rfl⟩
    d_join := ⟨_, _, fun_mk (st := s_join) l3 c3 k3, PySem.W.mg_of X G a3, (fun_mk (st := s_join) l3 c3 k3).binds fun _ _ _ _ _ _ us hl => match us, hl with | [_, _], _ => rfl⟩
    d_is_within := ⟨_, _, fun_mk (st := s_is_within) l4 c4 k4, PySem.W.mg_of X G a4, (fun_mk (st := s_is_within) l4 c4 k4).binds fun _ _ _ _ _ _ us hl => match us, hl with | [_, _], _ => rfl⟩
    d_need_both := ⟨_, _, fun_mk (st := s_need_both) l5 c5 k5, PySem.W.mg_of X G a5, (fun_mk (st := s_need_both) l5 c5 k5).binds fun _ _ _ _ _ _ us hl => match us, hl with | [_, _], _ => rfl⟩
    d_joined := ⟨_, _, fun_mk (st := s_joined) l6 c6 k6, PySem.W.mg_of X G a6, (fun_mk (st := s_joined) l6 c6 k6).binds fun _ _ _ _ _ _ us hl => match us, hl with | [_, _], _ => rfl⟩
    d_compared := ⟨_, _, fun_mk (st := s_compared) l7 c7 k7, PySem.W.mg_of X G a7, (fun_mk (st := s_compared) l7 c7 k7).binds fun _ _ _ _ _ _ us hl => match us, hl with | [_, _], _ => rfl⟩
    d__law_begun := ⟨_, _, fun_mk (st := s__law_begun) l8 c8 k8, PySem.W.mg_of X G a8, (fun_mk (st := s__law_begun) l8 c8 k8).binds fun _ _ _ _ _ _ us hl => match us, hl with | [_], _ => rfl⟩
    d__law_take := ⟨_, _, fun_mk (st := s__law_take) l9 c9 k9, PySem.W.mg_of X G a9, (fun_mk (st := s__law_take) l9 c9 k9).binds fun _ _ _ _ _ _ us hl => match us, hl with | [_, _], _ => rfl⟩
    d__law_alike := ⟨_, _, fun_mk (st := s__law_alike) l10 c10 k10, PySem.W.mg_of X G a10, (fun_mk (st := s__law_alike) l10 c10 k10).binds fun _ _ _ _ _ _ us hl => match us, hl with | [_, _], _ => rfl⟩
    d__law_told := ⟨_, _, fun_mk (st := s__law_told) l11 c11 k11, PySem.W.mg_of X G a11, (fun_mk (st := s__law_told) l11 c11 k11).binds fun _ _ _ _ _ _ us hl => match us, hl with | [_], _ => rfl⟩
    d__law_all := ⟨_, _, fun_mk (st := s__law_all) l12 c12 k12, PySem.W.mg_of X G a12, (fun_mk (st := s__law_all) l12 c12 k12).binds fun _ _ _ _ _ _ us hl => match us, hl with | [_, _], _ => rfl⟩
    d__law_within := ⟨_, _, fun_mk (st := s__law_within) l13 c13 k13, PySem.W.mg_of X G a13, (fun_mk (st := s__law_within) l13 c13 k13).binds fun _ _ _ _ _ _ us hl => match us, hl with | [_, _], _ => rfl⟩
    d__law_join := ⟨_, _, fun_mk (st := s__law_join) l14 c14 k14, PySem.W.mg_of X G a14, (fun_mk (st := s__law_join) l14 c14 k14).binds fun _ _ _ _ _ _ us hl => match us, hl with | [_, _], _ => rfl⟩
    d__law_token := ⟨_, _, fun_mk (st := s__law_token) l15 c15 k15, PySem.W.mg_of X G a15, (fun_mk (st := s__law_token) l15 c15 k15).binds fun _ _ _ _ _ _ us hl => match us, hl with | [_, _], _ => rfl⟩
    d__law_odd := ⟨_, _, fun_mk (st := s__law_odd) l16 c16 k16, PySem.W.mg_of X G a16, (fun_mk (st := s__law_odd) l16 c16 k16).binds fun _ _ _ _ _ _ us hl => match us, hl with | [_, _], _ => rfl⟩
  }
  have T : Txt K mg := {
    b_any := PySem.W.mg_none_of X G b_any
    b_bool := PySem.W.mg_none_of X G b_bool
    b_int := PySem.W.mg_none_of X G b_int
    b_isinstance := PySem.W.mg_none_of X G b_isinstance
    b_len := PySem.W.mg_none_of X G b_len
    b_list := PySem.W.mg_none_of X G b_list
    b_max := PySem.W.mg_none_of X G b_max
    b_range := PySem.W.mg_none_of X G b_range
    b_str := PySem.W.mg_none_of X G b_str
    b_tuple := PySem.W.mg_none_of X G b_tuple
    b_zip := PySem.W.mg_none_of X G b_zip
    c_LEAST_SITES := ⟨_, .int 2, PySem.W.mg_of X G g_LEAST_SITES, ⟨_, rfl⟩, fun _ => rfl⟩
    c_MOST_PUTS := ⟨_, .int 999, PySem.W.mg_of X G g_MOST_PUTS, ⟨_, rfl⟩, fun _ => rfl⟩
    c_MOST_SITES := ⟨_, .int 5, PySem.W.mg_of X G g_MOST_SITES, ⟨_, rfl⟩, fun _ => rfl⟩
    e_BadToken := ⟨E_BadToken, PySem.W.mg_of X G e_BadToken, x_BadToken, kp_BadToken, sb_BadToken, ty_BadToken⟩
  }
  have ER : ErrK K mg ["BadToken"] := {
    ex := fun nm hm => by
      simp only [List.mem_cons, List.not_mem_nil, or_false] at hm
      rcases hm with rfl
      · refine ⟨E_BadToken, PySem.W.mg_of X G e_BadToken, ⟨(by obtain ⟨cd, hcd, _⟩ := PySem.W.any_some hd_BadToken; rw [hcd]; rfl), hg_BadToken, hk_BadToken, sb_BadToken, ha_BadToken, hn, ht, hm_BadToken⟩, ⟨hg_BadToken, hk_BadToken, sb_BadToken, hd_BadToken⟩, fun c hc => ?_, qV_BadToken, fun f hf => ?_⟩
        · simp only [errNames, List.mem_cons, List.not_mem_nil, or_false] at hc
          rcases hc with rfl | rfl | rfl | rfl | rfl | rfl | rfl | rfl | rfl | rfl | rfl | rfl
          · exact ⟨E_BadCount, PySem.W.mg_of X G e_BadCount, qBadCount_BadToken⟩
          · exact ⟨E_BadKey, PySem.W.mg_of X G e_BadKey, qBadKey_BadToken⟩
          · exact ⟨E_BadLogs, PySem.W.mg_of X G e_BadLogs, qBadLogs_BadToken⟩
          · exact ⟨E_BadNow, PySem.W.mg_of X G e_BadNow, qBadNow_BadToken⟩
          · exact ⟨E_BadRules, PySem.W.mg_of X G e_BadRules, qBadRules_BadToken⟩
          · exact ⟨E_BadSite, PySem.W.mg_of X G e_BadSite, qBadSite_BadToken⟩
          · exact ⟨E_BadText, PySem.W.mg_of X G e_BadText, qBadText_BadToken⟩
          · exact ⟨E_BadToken, PySem.W.mg_of X G e_BadToken, qBadToken_BadToken⟩
          · exact ⟨E_BadWants, PySem.W.mg_of X G e_BadWants, qBadWants_BadToken⟩
          · exact ⟨E_BadWorth, PySem.W.mg_of X G e_BadWorth, qBadWorth_BadToken⟩
          · exact ⟨E_NotYet, PySem.W.mg_of X G e_NotYet, qNotYet_BadToken⟩
          · exact ⟨E_Stale, PySem.W.mg_of X G e_Stale, qStale_BadToken⟩
        · simp only [List.mem_cons, List.not_mem_nil, or_false] at hf
          rcases hf with rfl | rfl | rfl | rfl
          · exact nsite_BadToken
          · exact nrow_BadToken
          · exact nlacks_BadToken
          · exact nby_BadToken
    port := ⟨CP, PySem.W.mg_of X G ePort, fun nm hm cls hc => by
      simp only [List.mem_cons, List.not_mem_nil, or_false] at hm
      rcases hm with rfl
      · rw [PySem.W.mg_of X G e_BadToken] at hc; cases hc; exact qP_BadToken
      ⟩
    val := PySem.W.mg_none_of X G zVal
    isi := PySem.W.mg_none_of X G b_isinstance
  }
  refine ⟨_, [(cc, PT)], upSp K mg (sp_law PT), fun p hp => ?_, fun p hp => ?_, fun p hp => ?_, fun s u => .of_eq rfl, fun H a ns hl hb hT hS => law_start hl (hT (cc, PT) (by simp)) hS, fun base hK hG hTB => ok_law rfl (hTB (cc, PT) (by simp)) lL cL T (calls_mk D T ER)⟩
  · rw [List.mem_singleton.mp hp]; exact OT
  · rw [List.mem_singleton.mp hp]; exact nP
  · rw [List.mem_singleton.mp hp]; exact ⟨_, vsc, file, tf, flags, tg, inF, text, tt, X _ _ lc, rfl, rfl, v11, w11, w18, w7, w9, w10, cne⟩
end
end K02
open PySem PySem.W PyProof.Rows in
set_option maxRecDepth 100000 in
set_option maxHeartbeats 0 in
theorem PySem.Challenge.cw_causalports_k02_tokens_holds : PySem.Challenge.rw_causalports_k02_tokens.Holds := by
  w_on; o_law; k_head; (case hw => w_witness2)
  k_fill
  refine LamX.walk_ofTs (l := PySem.Challenge.rw_causalports_k02_tokens) (n := 63) (k := 17) (x := "_law_script") (CX := fun w => L2.CX (PySem.Challenge.rw_causalports_k02_tokens).prog w) rfl (by decide) rfl ⟨rfl, by decide, by decide⟩ (fun w h Y => PySem.W.km_in_of Y) ?F (fun w H s e s' z => by obtain ⟨_, _, _, _, _, _, _, _, _, _, _, _, z⟩ := z; exact z)
  case F =>
    intro w mg fa h Y KX G hmg
    refine' K02.all_mk KX G hmg ?OT ?a0 ?l0 ?c0 ?k0 ?a1 ?l1 ?c1 ?k1 ?a2 ?l2 ?c2 ?k2 ?a3 ?l3 ?c3 ?k3 ?a4 ?l4 ?c4 ?k4 ?a5 ?l5 ?c5 ?k5 ?a6 ?l6 ?c6 ?k6 ?a7 ?l7 ?c7 ?k7 ?a8 ?l8 ?c8 ?k8 ?a9 ?l9 ?c9 ?k9 ?a10 ?l10 ?c10 ?k10 ?a11 ?l11 ?c11 ?k11 ?a12 ?l12 ?c12 ?k12 ?a13 ?l13 ?c13 ?k13 ?a14 ?l14 ?c14 ?k14 ?a15 ?l15 ?c15 ?k15 ?a16 ?l16 ?c16 ?k16 ?aL ?lL ?cL ?lc ?v11 ?w11 ?w18 ?w7 ?w9 ?w10 ?cne ?nP ?b_any ?b_bool ?b_int ?b_isinstance ?b_len ?b_list ?b_max ?b_range ?b_str ?b_tuple ?b_zip ?g_LEAST_SITES ?g_MOST_PUTS ?g_MOST_SITES ?ePort ?zVal ?hn ?ht ?e_BadCount ?e_BadKey ?e_BadLogs ?e_BadNow ?e_BadRules ?e_BadSite ?e_BadText ?e_BadToken ?e_BadWants ?e_BadWorth ?e_NotYet ?e_Stale ?x_BadToken ?kp_BadToken ?sb_BadToken ?ty_BadToken ?hg_BadToken ?hk_BadToken ?ha_BadToken ?hm_BadToken ?hd_BadToken ?nsite_BadToken ?nrow_BadToken ?nlacks_BadToken ?nby_BadToken ?qBadCount_BadToken ?qBadKey_BadToken ?qBadLogs_BadToken ?qBadNow_BadToken ?qBadRules_BadToken ?qBadSite_BadToken ?qBadText_BadToken ?qBadToken_BadToken ?qBadWants_BadToken ?qBadWorth_BadToken ?qNotYet_BadToken ?qStale_BadToken ?qV_BadToken ?qP_BadToken
    (case a0 => k_is)
    (case l0 => k_is)
    (case c0 => k_is)
    (case k0 => k_is)
    (case a1 => k_is)
    (case l1 => k_is)
    (case c1 => k_is)
    (case k1 => k_is)
    (case a2 => k_is)
    (case l2 => k_is)
    (case c2 => k_is)
    (case k2 => k_is)
    (case a3 => k_is)
    (case l3 => k_is)
    (case c3 => k_is)
    (case k3 => k_is)
    (case a4 => k_is)
    (case l4 => k_is)
    (case c4 => k_is)
    (case k4 => k_is)
    (case a5 => k_is)
    (case l5 => k_is)
    (case c5 => k_is)
    (case k5 => k_is)
    (case a6 => k_is)
    (case l6 => k_is)
    (case c6 => k_is)
    (case k6 => k_is)
    (case a7 => k_is)
    (case l7 => k_is)
    (case c7 => k_is)
    (case k7 => k_is)
    (case a8 => k_is)
    (case l8 => k_is)
    (case c8 => k_is)
    (case k8 => k_is)
    (case a9 => k_is)
    (case l9 => k_is)
    (case c9 => k_is)
    (case k9 => k_is)
    (case a10 => k_is)
    (case l10 => k_is)
    (case c10 => k_is)
    (case k10 => k_is)
    (case a11 => k_is)
    (case l11 => k_is)
    (case c11 => k_is)
    (case k11 => k_is)
    (case a12 => k_is)
    (case l12 => k_is)
    (case c12 => k_is)
    (case k12 => k_is)
    (case a13 => k_is)
    (case l13 => k_is)
    (case c13 => k_is)
    (case k13 => k_is)
    (case a14 => k_is)
    (case l14 => k_is)
    (case c14 => k_is)
    (case k14 => k_is)
    (case a15 => k_is)
    (case l15 => k_is)
    (case c15 => k_is)
    (case k15 => k_is)
    (case a16 => k_is)
    (case l16 => k_is)
    (case c16 => k_is)
    (case k16 => k_is)
    (case aL => k_is)
    (case lL => k_is)
    (case cL => k_is)
    (case lc => k_is)
    (case v11 => (first | rfl | decide | k_is))
    (case w11 => (first | rfl | decide | k_is))
    (case w18 => (first | rfl | decide | k_is))
    (case w7 => (first | rfl | decide | k_is))
    (case w9 => (first | rfl | decide | k_is))
    (case w10 => (first | rfl | decide | k_is))
    (case cne => (first | rfl | decide | k_is))
    (case nP => (first | rfl | kernel_rfl | decide))
    (case b_any => k_is)
    (case b_bool => k_is)
    (case b_int => k_is)
    (case b_isinstance => k_is)
    (case b_len => k_is)
    (case b_list => k_is)
    (case b_max => k_is)
    (case b_range => k_is)
    (case b_str => k_is)
    (case b_tuple => k_is)
    (case b_zip => k_is)
    (case g_LEAST_SITES => k_is)
    (case g_MOST_PUTS => k_is)
    (case g_MOST_SITES => k_is)
    (case ePort => k_is)
    (case zVal => k_is)
    (case hn => k_is)
    (case ht => k_is)
    (case e_BadCount => k_is)
    (case e_BadKey => k_is)
    (case e_BadLogs => k_is)
    (case e_BadNow => k_is)
    (case e_BadRules => k_is)
    (case e_BadSite => k_is)
    (case e_BadText => k_is)
    (case e_BadToken => k_is)
    (case e_BadWants => k_is)
    (case e_BadWorth => k_is)
    (case e_NotYet => k_is)
    (case e_Stale => k_is)
    (case x_BadToken => k_exc)
    (case kp_BadToken => k_is)
    (case sb_BadToken => k_is)
    (case ty_BadToken => k_is)
    (case hg_BadToken => k_is)
    (case hk_BadToken => k_is)
    (case ha_BadToken => k_is)
    (case hm_BadToken => k_is)
    (case hd_BadToken => k_is)
    (case nsite_BadToken => k_is)
    (case nrow_BadToken => k_is)
    (case nlacks_BadToken => k_is)
    (case nby_BadToken => k_is)
    (case qBadCount_BadToken => kit_is)
    (case qBadKey_BadToken => kit_is)
    (case qBadLogs_BadToken => kit_is)
    (case qBadNow_BadToken => kit_is)
    (case qBadRules_BadToken => kit_is)
    (case qBadSite_BadToken => kit_is)
    (case qBadText_BadToken => kit_is)
    (case qBadToken_BadToken => kit_is)
    (case qBadWants_BadToken => kit_is)
    (case qBadWorth_BadToken => kit_is)
    (case qNotYet_BadToken => kit_is)
    (case qStale_BadToken => kit_is)
    (case qV_BadToken => kit_is)
    (case qP_BadToken => kts_exm)
    (case OT => exact PySem.W.km_tabs_of Y _ (by decide))
