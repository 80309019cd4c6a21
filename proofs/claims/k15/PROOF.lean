import PyProof.Rows.All
import HandS.ForMost
import HandS.ForExc
import HandS.IsInst
import HandS.Lambda
import KE.KDflt
import HandS.TupAny
import HandS.TupMul
import PyProof.WalksMore
import HandS.Wide
import HandS.Deep
import HandS.Zip
import KE.KDictZip
import HandS.SetFor
import HandS.More
import HandS.Dict
import HandS.Small
import HandS.EndOwn
import KE.KExcIs
import HandS.ExcField
import KE.SortData
import KE.DataMinMax
import HandS.Text
import HandS.Codes
import HandS.Defaults
import HandS.Flow
import KE.KUnpackStar
import HandS.StrMore
import HandS.Style
import HandS.RaiseMore
import HandS.ExcInit
import HandS.ClsMeth
import Wide.All
import OpenK.AllK
import Open.SpecLaws
import KE.OsGo
import PySem.Challenge.RW_causalports_k15_texts_refused
set_option Elab.async false
set_option linter.all false
set_option maxRecDepth 100000
/-! ## DL1 -/
namespace DL
open PySem PySem.Spec PyProof.Rows L2 LamX

/-! ### data: tuples by value, objects that may change by address -/
/-- a lambda of the text -/
structure LF where
  qual : Str
  params : Arguments
  body : Expr
  scope : Scope
inductive D where
  | non | bl (b : Bool) | int (i : Int) | str (s : Str) | tup (xs : List D) | ref (a : Addr)
  /-- a lambda made in the frame whose cells are these -/
  | fn (L : LF) (cells : List (Str × Addr))
  /-- the same while another def runs: what the cells hold -/
  | fnS (L : LF) (cells : List (Str × Addr)) (vals : List (Str × D))
  /-- a list that no one changes, by value -/
  | rl (ds : List D)
  /-- the same; it may stand in the written part -/
  | kl (ds : List D)
/-- the object of a lambda: its code object at c, its defaults dV -/
def lamObj (L : LF) (cl : List (Str × Addr)) (doc pm ctv dV : Value) (c : Addr) : Obj := PySem.W.kdv_obj "<lambda>" L.qual L.params (.expr L.body) L.scope cl dV doc pm c ctv
def DfV (K : PySem.W.Frag) (H : Hp) (L : LF) (dV : Value) : Prop := (L.params.defaults = [] ∧ dV = .none) ∨ (L.params.defaults.length = 1 ∧ ∃ T v, dV = .ref T ∧ Rd H T (.tup [v]))
def FnR (K : PySem.W.Frag) (H : Hp) (L : LF) (cells : List (Str × Addr)) (v : V) : Prop :=
  ∃ f c doc pm ctv dV, v = .ref f ∧ H f = some (.frz (lamObj L (cloFrom cells L.scope.names []) doc pm ctv dV c) (.own 0)) ∧ H c = some (CodeO c L.qual) ∧ DfV K H L dV ∧ ∀ x y a, cells.lookup x = some a → cells.lookup y = some a → x = y

/-- a list that no one changes -/
def SqF (K : PySem.W.Frag) (H : Hp) (p : Addr) (vs : List V) : Prop := (∃ o, H p = some (.frz o (.lst vs))) ∨ SqL K (fun _ => none) p vs
def SqZ (H : Hp) (p : Addr) (vs : List V) : Prop := ∃ o, H p = some (.frz o (.lst vs))
/-- what no one writes any more, known to the object -/
def Fz (H : Hp) (a : Addr) (o : Obj) : Prop := H a = some (.frz o (.own 0))
mutual
def Rep (K : PySem.W.Frag) (H : Hp) : D → V → Prop
  | .non, v => v = .non
  | .bl b, v => v = .bl b
  | .int i, v => v = .int i
  | .str s, v => v = .str s
  | .ref a, v => v = .ref a
  | .fn L cells, v => FnR K H L cells v
  | .fnS L cells vals, v => FnR K H L cells v ∧ RepC K H cells vals
  | .tup ds, v => ∃ p vs, v = .ref p ∧ SqT K H p vs ∧ Reps K H ds vs
  | .rl ds, v => ∃ p vs, v = .ref p ∧ SqZ H p vs ∧ Reps K H ds vs
  | .kl ds, v => ∃ p vs, v = .ref p ∧ SqF K H p vs ∧ Reps K H ds vs
def Reps (K : PySem.W.Frag) (H : Hp) : List D → List V → Prop
  | [], vs => vs = []
  | d :: ds, vs => ∃ v vr, vs = v :: vr ∧ Rep K H d v ∧ Reps K H ds vr
/-- the cells' values -/
def RepC (K : PySem.W.Frag) (H : Hp) (cells : List (Str × Addr)) : List (Str × D) → Prop
  | [] => True
  | (y, d) :: r => (∃ c o u v, cells.lookup y = some c ∧ Fz H c o ∧ o.data = .cell (some u) ∧ RelV v u ∧ Rep K H d v) ∧ RepC K H cells r
end

inductive MO where
  | lst (ds : List D)
  | dic (kvs : List (Key × D))
  | dit (kvs : List (List Key × D))
  | ins (C : Addr) (fs : List (Str × D))
  | box
  /-- the table of the code objects of a def -/
  | tab (q : Str)
  /-- the dict of an exception -/
  | xdo (fs : List (Str × D))
  /-- an instance, with what is its own -/
  | own (C : Addr) (fs : List (Str × D)) (sub : List (Addr × MO))

abbrev Store := Addr → Option MO
abbrev Own := Addr → Option Addr
def sup (S : Store) (a : Addr) (o : MO) : Store := fun b => if b = a then some o else S b
def sdel (S : Store) (a : Addr) : Store := fun b => if b = a then none else S b
theorem sup_same {S : Store} {a : Addr} {o : MO} : sup S a o a = some o := if_pos rfl
theorem sup_ne {S : Store} {a b : Addr} {o : MO} (h : b ≠ a) : sup S a o b = S b := if_neg h
theorem sup_sup {S : Store} {a : Addr} {o u : MO} : sup (sup S a o) a u = sup S a u := by
  funext b; unfold sup; split <;> rfl
theorem sne {S : Store} {a b : Addr} {o : MO} (h : S a = some o) (h' : S b = none) : a ≠ b := by
  intro e; subst e; rw [h] at h'; cases h'
theorem sne2 {S : Store} {a b : Addr} {o u : MO} (h : S a = some o) (h' : S b = some u) (d : o ≠ u) : a ≠ b := by
  intro e; subst e; rw [h] at h'; exact d (Option.some.inj h')

def RepF {α : Type} (K : PySem.W.Frag) (H : Hp) : List (α × D) → List (α × V) → Prop := Paired fun p q => p.1 = q.1 ∧ Rep K H p.2 q.2
def ObjF (K : PySem.W.Frag) (H : Hp) (a : Addr) : MO → Prop
  | .lst ds => ∃ vs, H a = some (.lst vs) ∧ Reps K H ds vs
  | .dic kvs => ∃ vs, H a = some (.dK vs) ∧ RepF K H kvs vs
  | .dit kvs => ∃ vs, H a = some (.dT vs) ∧ RepF K H kvs vs
  | .ins C fs => ∃ dx vs, H a = some (.ins C dx vs) ∧ RepF K H fs vs
  | _ => False
def ObjR (K : PySem.W.Frag) (H : Hp) (F : Own) (a : Addr) : MO → Prop
  | .lst ds => ∃ vs, H a = some (.lst vs) ∧ Reps K H ds vs
  | .dic kvs => ∃ vs, H a = some (.dK vs) ∧ RepF K H kvs vs
  | .dit kvs => ∃ vs, H a = some (.dT vs) ∧ RepF K H kvs vs
  | .ins C fs => ∃ dx vs, H a = some (.ins C dx vs) ∧ RepF K H fs vs
  | .box => ∃ (l : Addr) (z : Int) (ns : List Int), H a = some (.lst [.ref l, .int z]) ∧ H l = some (.lst (ns.map V.int)) ∧ F l = some a ∧ 0 ≤ z ∧ z < 2147483647 ∧ ns.length ≤ 63
  | .tab q => ∃ ps : Array Value, H a = some (.tbl ps) ∧ TriplesOk ps.toList ∧ ∀ (pos : Pos) (cv : Value), codeAmong pos ps.toList = some cv → ∃ c, cv = .ref c ∧ H c = some (CodeO c q)
  | .xdo fs => ∃ vs, H a = some (.xd vs) ∧ RepF K H fs vs
  | .own C fs sub => ObjF K H a (.ins C fs) ∧ (sub.map (·.1)).Nodup ∧ ∀ l o, (l, o) ∈ sub → ObjF K H l o ∧ F l = some a
/-- no tuple, no code object -/
structure NoT (H : Hp) (a : Addr) : Prop where
  there : H a ≠ none
  tup : ∀ xs, ¬ Rd H a (.tup xs)
  code : ∀ q, H a ≠ some (CodeO a q)
  fz : ∀ o, H a ≠ some (.frz o (.own 0))
  fl : ∀ o xs, H a ≠ some (.frz o (.lst xs))
structure Mod (K : PySem.W.Frag) (H : Hp) (S : Store) (F : Own) : Prop where
  obj : ∀ a o, S a = some o → ObjR K H F a o
  hid : ∀ l a, F l = some a → S l = none ∧ NoT H l
theorem NoT.of {H : Hp} {a : Addr} {u : HO} (e : H a = some u) (h1 : ∀ xs, u ≠ .tup xs) (h2 : ∀ o v, u = .frz o v → False) (h3 : ∀ φ, u ≠ .ext φ) : NoT H a where
  there := by rw [e]; simp
  tup := fun xs r => by
    rcases r with r | ⟨o, r⟩
    · rw [e] at r; cases r; exact h1 _ rfl
    · rw [e] at r; cases r; exact h2 _ _ rfl
  code := fun q r => by rw [e] at r; exact h3 _ (Option.some.inj r)
  fz := fun o r => by rw [e] at r; cases r; exact h2 _ _ rfl
  fl := fun o xs r => by rw [e] at r; cases r; exact h2 _ _ rfl
theorem NoT.lst {H : Hp} {a : Addr} {vs : List V} (e : H a = some (.lst vs)) : NoT H a := NoT.of e (fun _ z => nomatch z) (fun _ _ z => nomatch z) (fun _ z => nomatch z)
theorem ObjR.mut {K : PySem.W.Frag} {H : Hp} {F : Own} {a : Addr} : ∀ {o : MO}, ObjR K H F a o → NoT H a
  | .lst _, ⟨_, e, _⟩ => NoT.lst e
  | .dic _, ⟨_, e, _⟩ => NoT.of e (fun _ z => nomatch z) (fun _ _ z => nomatch z) (fun _ z => nomatch z)
  | .dit _, ⟨_, e, _⟩ => NoT.of e (fun _ z => nomatch z) (fun _ _ z => nomatch z) (fun _ z => nomatch z)
  | .ins _ _, ⟨_, _, e, _⟩ => NoT.of e (fun _ z => nomatch z) (fun _ _ z => nomatch z) (fun _ z => nomatch z)
  | .box, ⟨_, _, _, e, _⟩ => NoT.lst e
  | .xdo _, ⟨_, e, _⟩ => NoT.of e (fun _ z => nomatch z) (fun _ _ z => nomatch z) (fun _ z => nomatch z)
  | .tab _, ⟨_, e, _⟩ => NoT.of e (fun _ z => nomatch z) (fun _ _ z => nomatch z) (fun _ z => nomatch z)
  | .own _ _ _, ⟨⟨_, _, e, _⟩, _⟩ => NoT.of e (fun _ z => nomatch z) (fun _ _ z => nomatch z) (fun _ z => nomatch z)
theorem ObjF.mut {K : PySem.W.Frag} {H : Hp} {a : Addr} : ∀ {o : MO}, ObjF K H a o → NoT H a
  | .lst _, ⟨_, e, _⟩ => NoT.lst e
  | .dic _, ⟨_, e, _⟩ => NoT.of e (fun _ z => nomatch z) (fun _ _ z => nomatch z) (fun _ z => nomatch z)
  | .dit _, ⟨_, e, _⟩ => NoT.of e (fun _ z => nomatch z) (fun _ _ z => nomatch z) (fun _ z => nomatch z)
  | .ins _ _, ⟨_, _, e, _⟩ => NoT.of e (fun _ z => nomatch z) (fun _ _ z => nomatch z) (fun _ z => nomatch z)
  | .box, h => h.elim
  | .tab _, h => h.elim
  | .xdo _, h => h.elim
  | .own _ _ _, h => h.elim

/-- the frame: what is tracked by H and not by S (nor hidden) stays -/
structure Fm (S : Store) (F : Own) (H : Hp) (S' : Store) (F' : Own) (H' : Hp) : Prop where
  keep : ∀ a o, H a = some o → S a = none → F a = none → H' a = some o
  st : ∀ a, S' a ≠ none → S a ≠ none ∨ F a ≠ none ∨ H a = none
  hd : ∀ a, F' a ≠ none → S a ≠ none ∨ F a ≠ none ∨ H a = none
theorem Fm.refl (S : Store) (F : Own) (H : Hp) : Fm S F H S F H := ⟨fun _ _ h _ _ => h, fun _ h => .inl h, fun _ h => .inr (.inl h)⟩
/-- none of what stands apart -/
def Nw (S : Store) (F : Own) (H : Hp) (a : Addr) : Prop := S a ≠ none ∨ F a ≠ none ∨ H a = none
theorem Fm.cl {S S1 : Store} {F F1 : Own} {H H1 : Hp} (a : Fm S F H S1 F1 H1) {c : Addr} {o : HO} (h1 : H c = some o) (h2 : S c = none) (h3 : F c = none) : H1 c = some o ∧ S1 c = none ∧ F1 c = none := by
  refine ⟨a.keep c o h1 h2 h3, ?_, ?_⟩
  · cases e : S1 c with
    | none => rfl
    | some u => rcases a.st c (by rw [e]; simp) with z | z | z
                · exact absurd h2 z
                · exact absurd h3 z
                · rw [h1] at z; cases z
  · cases e : F1 c with
    | none => rfl
    | some u => rcases a.hd c (by rw [e]; simp) with z | z | z
                · exact absurd h2 z
                · exact absurd h3 z
                · rw [h1] at z; cases z
theorem Nw.back {S S1 : Store} {F F1 : Own} {H H1 : Hp} (a : Fm S F H S1 F1 H1) {c : Addr} (h : Nw S1 F1 H1 c) : Nw S F H c := by
  by_cases e1 : S c = none
  · by_cases e2 : F c = none
    · cases e3 : H c with
      | none => exact .inr (.inr e3)
      | some o =>
        obtain ⟨k1, k2, k3⟩ := a.cl e3 e1 e2
        rcases h with z | z | z
        · exact absurd k2 z
        · exact absurd k3 z
        · rw [k1] at z; cases z
    · exact .inr (.inl e2)
  · exact .inl e1
theorem Fm.trans {S S1 S2 : Store} {F F1 F2 : Own} {H H1 H2 : Hp} (a : Fm S F H S1 F1 H1) (b : Fm S1 F1 H1 S2 F2 H2) : Fm S F H S2 F2 H2 := by
  refine ⟨fun c o h1 h2 h3 => ?_, fun c h => Nw.back a (b.st c h), fun c h => Nw.back a (b.hd c h)⟩
  obtain ⟨k1, k2, k3⟩ := a.cl h1 h2 h3
  exact b.keep c o k1 k2 k3

/-- what is never written stays: tuples, code objects, known objects -/
structure Kp (H H' : Hp) : Prop where
  tup : ∀ p xs, Rd H p (.tup xs) → Rd H' p (.tup xs)
  code : ∀ c q, H c = some (CodeO c q) → H' c = some (CodeO c q)
  fz : ∀ a o, Fz H a o → Fz H' a o
  fl : ∀ p o xs, H p = some (.frz o (.lst xs)) → H' p = some (.frz o (.lst xs))
theorem Kp.refl (H : Hp) : Kp H H := ⟨fun _ _ h => h, fun _ _ h => h, fun _ _ h => h, fun _ _ _ h => h⟩
theorem Kp.trans {H H1 H2 : Hp} (a : Kp H H1) (b : Kp H1 H2) : Kp H H2 := ⟨fun p xs h => b.tup p xs (a.tup p xs h), fun p xs h => b.code p xs (a.code p xs h), fun p xs h => b.fz p xs (a.fz p xs h), fun p o xs h => b.fl p o xs (a.fl p o xs h)⟩
theorem SqZ.kp {H H' : Hp} (k : Kp H H') {p : Addr} {xs : List V} (h : SqZ H p xs) : SqZ H' p xs := let ⟨o, h⟩ := h; ⟨o, k.fl _ _ _ h⟩
theorem SqZ.sf {K : PySem.W.Frag} {H : Hp} {p : Addr} {xs : List V} (h : SqZ H p xs) : SqF K H p xs := .inl h
theorem SqF.kp {K : PySem.W.Frag} {H H' : Hp} (k : Kp H H') {p : Addr} {xs : List V} (h : SqF K H p xs) : SqF K H' p xs := by
  rcases h with ⟨o, h⟩ | h
  · exact .inl ⟨o, k.fl _ _ _ h⟩
  · exact .inr h
theorem SqT.kp {K : PySem.W.Frag} {H H' : Hp} (k : Kp H H') {p : Addr} {xs : List V} (h : SqT K H p xs) : SqT K H' p xs := by
  rcases h with h | h
  · exact .inl (k.tup _ _ h)
  · exact .inr h
section
variable {K : PySem.W.Frag} {H H' : Hp} {S S' : Store} {F F' : Own}
theorem fix_free (m : Mod K H S F) {p : Addr} (n : ¬ NoT H p) : S p = none ∧ F p = none := by
  constructor
  · cases e : S p with
    | none => rfl
    | some o => exact absurd (m.obj p o e).mut n
  · cases e : F p with
    | none => rfl
    | some o => exact absurd (m.hid p o e).2 n
theorem Fm.kp (m : Mod K H S F) (f : Fm S F H S' F' H') : Kp H H' where
  tup := fun p xs h => by
    obtain ⟨a, b⟩ := fix_free m (p := p) (fun z => z.tup xs h)
    rcases h with h | ⟨o, h⟩
    · exact .inl (f.keep _ _ h a b)
    · exact .inr ⟨o, f.keep _ _ h a b⟩
  code := fun c q h => by
    obtain ⟨a, b⟩ := fix_free m (p := c) (fun z => z.code q h)
    exact f.keep _ _ h a b
  fz := fun c o h => by
    obtain ⟨a, b⟩ := fix_free m (p := c) (fun z => z.fz o h)
    exact f.keep _ _ h a b
  fl := fun c o xs h => by
    obtain ⟨a, b⟩ := fix_free m (p := c) (fun z => z.fl o xs h)
    exact f.keep _ _ h a b
theorem FnR.kp (k : Kp H H') {L : LF} {cells : List (Str × Addr)} {v : V} (h : FnR K H L cells v) : FnR K H' L cells v := by
  obtain ⟨f, c, doc, pm, ctv, dV, e, h1, h2, h3, inj⟩ := h
  refine ⟨f, c, doc, pm, ctv, dV, e, k.fz _ _ h1, k.code _ _ h2, ?_, inj⟩
  rcases h3 with h3 | ⟨h3, T, w, e2, h4⟩
  · exact .inl h3
  · exact .inr ⟨h3, T, w, e2, k.tup _ _ h4⟩
mutual
theorem Rep.kp (k : Kp H H') : ∀ (d : D) (v : V), Rep K H d v → Rep K H' d v
  | .non, _, h => h
  | .bl _, _, h => h
  | .int _, _, h => h
  | .str _, _, h => h
  | .ref _, _, h => h
  | .fn _ _, _, h => FnR.kp k h
  | .fnS _ _ vals, _, ⟨h, r⟩ => ⟨FnR.kp k h, RepC.kp k _ vals r⟩
  | .tup ds, _, ⟨p, vs, e, t, r⟩ => ⟨p, vs, e, SqT.kp k t, Reps.kp k ds vs r⟩
  | .rl ds, _, ⟨p, vs, e, t, r⟩ => ⟨p, vs, e, SqZ.kp k t, Reps.kp k ds vs r⟩
  | .kl ds, _, ⟨p, vs, e, t, r⟩ => ⟨p, vs, e, SqF.kp k t, Reps.kp k ds vs r⟩
theorem Reps.kp (k : Kp H H') : ∀ (ds : List D) (vs : List V), Reps K H ds vs → Reps K H' ds vs
  | [], _, h => h
  | d :: ds, _, ⟨v, vr, e, h, r⟩ => ⟨v, vr, e, Rep.kp k d v h, Reps.kp k ds vr r⟩
theorem RepC.kp (k : Kp H H') : ∀ (cells : List (Str × Addr)) (vals : List (Str × D)), RepC K H cells vals → RepC K H' cells vals
  | _, [], _ => True.intro
  | cells, (y, d) :: r, ⟨⟨c, o, u, v, h1, h2, h3, h4, h5⟩, hr⟩ => ⟨⟨c, o, u, v, h1, k.fz _ _ h2, h3, h4, Rep.kp k d v h5⟩, RepC.kp k cells r hr⟩
end
theorem RepF.kp {α : Type} (k : Kp H H') {fs : List (α × D)} {vs : List (α × V)} (h : RepF K H fs vs) : RepF K H' fs vs := by
  unfold RepF at h ⊢
  induction h with
  | nil => exact .nil
  | cons r t ih => exact .cons ⟨r.1, Rep.kp k _ _ r.2⟩ ih
theorem Reps.length : ∀ {ds : List D} {vs : List V}, Reps K H ds vs → ds.length = vs.length
  | [], _, h => by cases h; rfl
  | d :: ds, _, ⟨v, vr, e, _, r⟩ => by subst e; simp [Reps.length r]
theorem Reps.get : ∀ {ds : List D} {vs : List V} {i : Nat} {d : D}, Reps K H ds vs → ds[i]? = some d → ∃ v, vs[i]? = some v ∧ Rep K H d v
  | [], _, _, _, _, e => by simp at e
  | x :: ds, _, 0, d, ⟨v, vr, e1, h, r⟩, e => by subst e1; simp at e; subst e; exact ⟨v, rfl, h⟩
  | x :: ds, _, i + 1, d, ⟨v, vr, e1, h, r⟩, e => by
    subst e1
    obtain ⟨w, h1, h2⟩ := Reps.get (i := i) r (by simpa using e)
    exact ⟨w, by simpa using h1, h2⟩
theorem Reps.append : ∀ {ds es : List D} {vs ws : List V}, Reps K H ds vs → Reps K H es ws → Reps K H (ds ++ es) (vs ++ ws)
  | [], _, _, _, h, s => by cases h; exact s
  | d :: ds, _, _, _, ⟨v, vr, e, h, r⟩, s => by subst e; exact ⟨v, vr ++ _, rfl, h, Reps.append r s⟩
theorem Reps.set : ∀ {ds : List D} {vs : List V} {d : D} {v : V} (i : Nat), Rep K H d v → Reps K H ds vs → Reps K H (ds.set i d) (vs.set i v)
  | [], _, _, _, _, _, h => by cases h; exact rfl
  | d :: ds, _, _, _, 0, q, ⟨v, vr, e, h, r⟩ => by subst e; exact ⟨_, vr, rfl, q, r⟩
  | d :: ds, _, _, _, i + 1, q, ⟨v, vr, e, h, r⟩ => by subst e; exact ⟨v, _, rfl, h, Reps.set i q r⟩
theorem Reps.take : ∀ {ds : List D} {vs : List V} (n : Nat), Reps K H ds vs → Reps K H (ds.take n) (vs.take n)
  | _, _, 0, _ => rfl
  | [], _, _ + 1, h => by cases h; exact rfl
  | d :: ds, _, n + 1, ⟨v, vr, e, h, r⟩ => by subst e; exact ⟨v, _, rfl, h, Reps.take n r⟩
theorem Reps.drop : ∀ {ds : List D} {vs : List V} (n : Nat), Reps K H ds vs → Reps K H (ds.drop n) (vs.drop n)
  | _, _, 0, h => h
  | [], _, _ + 1, h => by cases h; exact rfl
  | d :: ds, _, n + 1, ⟨v, vr, e, h, r⟩ => by subst e; exact Reps.drop n r
theorem Reps.eraseIdx : ∀ {ds : List D} {vs : List V} (n : Nat), Reps K H ds vs → Reps K H (ds.eraseIdx n) (vs.eraseIdx n)
  | [], _, _, h => by cases h; exact rfl
  | d :: ds, _, 0, ⟨v, vr, e, h, r⟩ => by subst e; exact r
  | d :: ds, _, n + 1, ⟨v, vr, e, h, r⟩ => by subst e; exact ⟨v, _, rfl, h, Reps.eraseIdx n r⟩
theorem Reps.nil_iff {ds : List D} {vs : List V} (h : Reps K H ds vs) : vs = [] ↔ ds = [] := by
  cases ds with
  | nil => cases h; simp
  | cons d ds => obtain ⟨v, vr, e, _, _⟩ := h; subst e; simp
theorem Reps.one {d : D} {v : V} (h : Rep K H d v) : Reps K H [d] [v] := ⟨v, [], rfl, h, rfl⟩
theorem Reps.ints : ∀ {ns : List Int} {vs : List V}, Reps K H (ns.map D.int) vs → vs = ns.map V.int
  | [], _, h => h
  | n :: ns, _, ⟨v, vr, e, h, r⟩ => by subst e; cases h; rw [Reps.ints r]; rfl
theorem Reps.of_ints : ∀ (ns : List Int), Reps K H (ns.map D.int) (ns.map V.int)
  | [] => rfl
  | n :: ns => ⟨_, _, rfl, rfl, Reps.of_ints ns⟩
theorem Reps.bls : ∀ {ns : List Bool} {vs : List V}, Reps K H (ns.map D.bl) vs → vs = ns.map V.bl
  | [], _, h => h
  | n :: ns, _, ⟨v, vr, e, h, r⟩ => by subst e; cases h; rw [Reps.bls r]; rfl
theorem Reps.strs : ∀ {ns : List Str} {vs : List V}, Reps K H (ns.map D.str) vs → vs = ns.map V.str
  | [], _, h => h
  | n :: ns, _, ⟨v, vr, e, h, r⟩ => by subst e; cases h; rw [Reps.strs r]; rfl

/-! ### changes -/
/-- objects besides a keep their reading when H changes at a alone (or at fresh p) -/
theorem kp_upd {a : Addr} {o : HO} (h : H a = none ∨ NoT H a) : Kp H (upd H a o) := by
  have ne : ∀ {p : Addr}, H p ≠ none → ¬ NoT H p → p ≠ a := fun {p} n1 n2 e => by
    subst e
    rcases h with h | h
    · exact n1 h
    · exact n2 h
  refine ⟨fun p xs r => ?_, fun c q r => ?_, fun c o' r => ?_, fun c o' xs r => by rw [upd_ne (ne (by rw [r]; simp) (fun z => z.fl o' xs r))]; exact r⟩
  · have np : p ≠ a := ne (by rcases r with r | ⟨u, r⟩ <;> rw [r] <;> simp) (fun z => z.tup xs r)
    rcases r with r | ⟨u, r⟩
    · exact .inl (by rw [upd_ne np]; exact r)
    · exact .inr ⟨u, by rw [upd_ne np]; exact r⟩
  · rw [upd_ne (ne (by rw [r]; simp) (fun z => z.code q r))]; exact r
  · have r' : H c = some (.frz o' (.own 0)) := r
    show upd H a o c = some (.frz o' (.own 0))
    rw [upd_ne (ne (by rw [r']; simp) (fun z => z.fz o' r'))]; exact r'
theorem kp_new {a : Addr} {o : HO} (h : H a = none) : Kp H (upd H a o) := kp_upd (.inl h)
theorem kp_mut {a : Addr} {o : HO} (h : NoT H a) : Kp H (upd H a o) := kp_upd (.inr h)
theorem ObjF.other {a b : Addr} {o : HO} {u : MO} (k : Kp H (upd H a o)) (hb : b ≠ a) (h : ObjF K H b u) : ObjF K (upd H a o) b u := by
  cases u with
  | lst ds => obtain ⟨vs, e, r⟩ := h; exact ⟨vs, by rw [upd_ne hb]; exact e, Reps.kp k _ _ r⟩
  | dic ds => obtain ⟨vs, e, r⟩ := h; exact ⟨vs, by rw [upd_ne hb]; exact e, r.kp k⟩
  | dit ds => obtain ⟨vs, e, r⟩ := h; exact ⟨vs, by rw [upd_ne hb]; exact e, r.kp k⟩
  | ins C fs => obtain ⟨dx, vs, e, r⟩ := h; exact ⟨dx, vs, by rw [upd_ne hb]; exact e, r.kp k⟩
  | _ => exact h.elim
theorem ObjR.other {a b : Addr} {o : HO} {u : MO} (k : Kp H (upd H a o)) (hb : b ≠ a) (hf : F a ≠ some b) (h : ObjR K H F b u) : ObjR K (upd H a o) F b u := by
  cases u with
  | lst ds => obtain ⟨vs, e, r⟩ := h; exact ⟨vs, by rw [upd_ne hb]; exact e, Reps.kp k _ _ r⟩
  | dic ds => obtain ⟨vs, e, r⟩ := h; exact ⟨vs, by rw [upd_ne hb]; exact e, r.kp k⟩
  | dit ds => obtain ⟨vs, e, r⟩ := h; exact ⟨vs, by rw [upd_ne hb]; exact e, r.kp k⟩
  | ins C fs => obtain ⟨dx, vs, e, r⟩ := h; exact ⟨dx, vs, by rw [upd_ne hb]; exact e, r.kp k⟩
  | box =>
    obtain ⟨l, z, ns, e1, e2, e3, r⟩ := h
    have nl : l ≠ a := fun e => hf (e ▸ e3)
    exact ⟨l, z, ns, by rw [upd_ne hb]; exact e1, by rw [upd_ne nl]; exact e2, e3, r⟩
  | xdo fs => obtain ⟨vs, e, r⟩ := h; exact ⟨vs, by rw [upd_ne hb]; exact e, r.kp k⟩
  | tab q =>
    obtain ⟨ps, e, r1, r2⟩ := h
    refine ⟨ps, by rw [upd_ne hb]; exact e, r1, fun pos cv hc => ?_⟩
    obtain ⟨c, e1, e2⟩ := r2 pos cv hc
    exact ⟨c, e1, k.code _ _ e2⟩
  | own C fs sub =>
    obtain ⟨h1, nd, h2⟩ := h
    refine ⟨ObjF.other k hb h1, nd, fun l o hm => ?_⟩
    obtain ⟨g1, g2⟩ := h2 l o hm
    exact ⟨ObjF.other k (fun e => hf (e ▸ g2)) g1, g2⟩
/-- an object of the store is changed -/
theorem NoT.upd {a l : Addr} {o : HO} (h : NoT H l) (nl : l ≠ a) : NoT (upd H a o) l where
  there := by rw [upd_ne nl]; exact h.there
  tup := fun xs r => h.tup xs (by
    rcases r with r | ⟨u, r⟩
    · exact .inl (by rw [upd_ne nl] at r; exact r)
    · exact .inr ⟨u, by rw [upd_ne nl] at r; exact r⟩)
  code := fun q r => h.code q (by rw [upd_ne nl] at r; exact r)
  fz := fun q r => h.fz q (by rw [upd_ne nl] at r; exact r)
  fl := fun q xs r => h.fl q xs (by rw [upd_ne nl] at r; exact r)
theorem Mod.put (m : Mod K H S F) {a : Addr} {u u' : MO} {o : HO} (e : S a = some u) (new : ObjR K (upd H a o) F a u') : Mod K (upd H a o) (sup S a u') F := by
  have ma := (m.obj a u e).mut
  have fa : F a = none := by
    cases q : F a with
    | none => rfl
    | some b => have := (m.hid a b q).1; rw [e] at this; cases this
  refine ⟨fun b v q => ?_, fun l b q => ?_⟩
  · by_cases hb : b = a
    · subst hb; rw [sup_same] at q; cases q; exact new
    · rw [sup_ne hb] at q
      exact (m.obj b v q).other (kp_mut ma) hb (by rw [fa]; simp)
  · obtain ⟨h1, h2⟩ := m.hid l b q
    have nl : l ≠ a := fun z => by rw [z, fa] at q; cases q
    exact ⟨by rw [sup_ne nl]; exact h1, h2.upd nl⟩
theorem Fm.put {a : Addr} {u u' : MO} {o : HO} (e : S a = some u) : Fm S F H (sup S a u') F (upd H a o) := by
  refine ⟨fun b v h1 h2 _ => ?_, fun b h => ?_, fun b h => .inr (.inl h)⟩
  · rw [upd_ne (fun z => by rw [z, e] at h2; cases h2)]; exact h1
  · by_cases hb : b = a
    · subst hb; exact .inl (by rw [e]; simp)
    · rw [sup_ne hb] at h; exact .inl h
theorem Mod.fresh (m : Mod K H S F) {p : Addr} (h : H p = none) : S p = none ∧ F p = none := by
  constructor
  · cases e : S p with
    | none => rfl
    | some o => exact absurd h (m.obj p o e).mut.there
  · cases e : F p with
    | none => rfl
    | some o => exact absurd h (m.hid p o e).2.there
/-- a new object, not (yet) in the store -/
theorem Mod.laid (m : Mod K H S F) {p : Addr} {o : HO} (h : H p = none) : Mod K (upd H p o) S F := by
  obtain ⟨hs, hf⟩ := m.fresh h
  refine ⟨fun b v q => (m.obj b v q).other (kp_new h) (fun z => by rw [z, hs] at q; cases q) (by rw [hf]; simp), fun l b q => ?_⟩
  obtain ⟨h1, h2⟩ := m.hid l b q
  have nl : l ≠ p := fun z => by rw [z, hf] at q; cases q
  exact ⟨h1, h2.upd nl⟩
theorem Fm.laid {p : Addr} {o : HO} (h : H p = none) : Fm S F H S F (upd H p o) :=
  ⟨fun b v h1 _ _ => by rw [upd_ne (ne_of_none h1 h)]; exact h1, fun _ h => .inl h, fun _ h => .inr (.inl h)⟩
/-- an object that stands apart comes into the store -/
theorem Mod.adopt (m : Mod K H S F) {p : Addr} {u : MO} (hs : S p = none) (hf : F p = none) (new : ObjR K H F p u) : Mod K H (sup S p u) F := by
  refine ⟨fun b v q => ?_, fun l b q => ?_⟩
  · by_cases hb : b = p
    · subst hb; rw [sup_same] at q; cases q; exact new
    · rw [sup_ne hb] at q; exact m.obj b v q
  · obtain ⟨h1, h2⟩ := m.hid l b q
    have nl : l ≠ p := fun z => by rw [z, hf] at q; cases q
    exact ⟨by rw [sup_ne nl]; exact h1, h2⟩
/-- what is not asked for any more may be forgotten -/
theorem Fm.adopt {p : Addr} {u : MO} (f : Fm S F H S' F' H') (n : Nw S F H p) : Fm S F H (sup S' p u) F' H' :=
  ⟨f.keep, fun c h => by
    by_cases hc : c = p
    · subst hc; exact n
    · rw [sup_ne hc] at h; exact f.st c h, f.hd⟩
/-- what came new may change again -/
theorem Fm.over {p : Addr} {o : HO} (f : Fm S F H S' F' H') (n : Nw S F H p) : Fm S F H S' F' (upd H' p o) :=
  ⟨fun a u h1 h2 h3 => by
    have ne : a ≠ p := fun z => by
      subst z
      rcases n with n | n | n
      · exact n h2
      · exact n h3
      · rw [h1] at n; cases n
    rw [upd_ne ne]; exact f.keep a u h1 h2 h3, f.st, f.hd⟩
theorem Fm.less {S'' : Store} (f : Fm S F H S' F' H') (h : ∀ a o, S'' a = some o → S' a = some o) : Fm S F H S'' F' H' :=
  ⟨f.keep, fun c q => f.st c (by
    cases e : S'' c with
    | none => exact absurd e q
    | some o => rw [h c o e]; simp), f.hd⟩
theorem Mod.less (m : Mod K H S F) (h : ∀ a o, S' a = some o → S a = some o) : Mod K H S' F := by
  refine ⟨fun a o e => m.obj a o (h a o e), fun l a e => ⟨?_, (m.hid l a e).2⟩⟩
  cases q : S' l with
  | none => rfl
  | some o =>
    have z := (m.hid l a e).1
    rw [h l o q] at z
    cases z
end
end DL
/-! ## DL2 -/
namespace DL
open PySem PySem.Spec PyProof.Rows L2

abbrev DSt := List (Option D)
/-- an exception: its class, its dict's address -/
structure ExcD where
  name : Str
  at_ : Option Addr
abbrev XE := ExcD → Store → Prop
abbrev DK := D → Store → Prop
abbrev DE := DSt → Store → DK → XE → Prop
abbrev DT := DSt → Store → (Bool → Store → Prop) → XE → Prop
abbrev DA := DSt → Store → (List D → Store → Prop) → XE → Prop
abbrev XF : XE := fun _ _ => False
structure SlR (K : PySem.W.Frag) (H : Hp) (σD : DSt) (σ : L2.St) : Prop where
  len : σD.length = σ.length
  at_ : ∀ (i : Nat) (d : D), σD[i]? = some (some d) → ∃ v, σ[i]? = some (some v) ∧ Rep K H d v
def ExcR (K : PySem.W.Frag) (mg : Str → Option Value) (H : Hp) (e : ExcD) (cls : Value) (d : Option Addr) : Prop := mg e.name = some cls ∧ e.at_ = d
section
variable {K : PySem.W.Frag} {H H' : Hp} {mg : Str → Option Value}
theorem SlR.kp {σD : DSt} {σ : L2.St} (k : Kp H H') (h : SlR K H σD σ) : SlR K H' σD σ := ⟨h.len, fun i d e => by
  obtain ⟨v, h1, h2⟩ := h.at_ i d e
  exact ⟨v, h1, Rep.kp k _ _ h2⟩⟩
theorem SlR.set {σD : DSt} {σ : L2.St} {d : D} {v : V} (h : SlR K H σD σ) (i : Nat) (r : Rep K H d v) : SlR K H (σD.set i (some d)) (σ.set i (some v)) := by
  refine ⟨by rw [List.length_set, List.length_set]; exact h.len, fun j e q => ?_⟩
  by_cases hj : i = j
  · subst hj
    by_cases hl : i < σD.length
    · rw [List.getElem?_set_self hl] at q
      cases q
      exact ⟨v, List.getElem?_set_self (by rw [← h.len]; exact hl), r⟩
    · rw [List.getElem?_eq_none (by rw [List.length_set]; omega)] at q; cases q
  · rw [List.getElem?_set_ne hj] at q ⊢
    exact h.at_ j e q
end

/-- what follows a value -/
def Post (K : PySem.W.Frag) (S : Store) (F : Own) (H : Hp) (QD : DK) (Q : VK) : Prop :=
  ∀ v H' d S' F', Rep K H' d v → Mod K H' S' F' → Fm S F H S' F' H' → QD d S' → Q v H'
def PostB (K : PySem.W.Frag) (S : Store) (F : Own) (H : Hp) (QD : Bool → Store → Prop) (Q : Bool → Hp → Prop) : Prop :=
  ∀ b H' S' F', Mod K H' S' F' → Fm S F H S' F' H' → QD b S' → Q b H'
def PostA (K : PySem.W.Frag) (S : Store) (F : Own) (H : Hp) (QD : List D → Store → Prop) (Q : List V → Hp → Prop) : Prop :=
  ∀ vs H' ds S' F', Reps K H' ds vs → Mod K H' S' F' → Fm S F H S' F' H' → QD ds S' → Q vs H'
def PostX (K : PySem.W.Frag) (mg : Str → Option Value) (S : Store) (F : Own) (H : Hp) (ED : XE) (W : Value → Option Addr → Hp → Prop) : Prop :=
  ∀ cls dd H' e S' F', ExcR K mg H' e cls dd → Mod K H' S' F' → Fm S F H S' F' H' → ED e S' → W cls dd H'
/-- a new list, by value: its address is nobody's -/
def PostL (K : PySem.W.Frag) (S : Store) (F : Own) (H : Hp) (QD : List D → Store → Prop) (Q : VK) : Prop :=
  ∀ p vs H' ds S' F', H' p = some (.lst vs) → S' p = none → F' p = none → Nw S F H p → Reps K H' ds vs → Mod K H' S' F' → Fm S F H S' F' H' → QD ds S' → Q (.ref p) H'

def up (K : PySem.W.Frag) (mg : Str → Option Value) (W : WX) (w : DE) : TE := fun σ H Q => ∃ σD S F QD ED, SlR K H σD σ ∧ Mod K H S F ∧ w σD S QD ED ∧ Post K S F H QD Q ∧ PostX K mg S F H ED (fun c d H' => W c d σ H')
def upT (K : PySem.W.Frag) (mg : Str → Option Value) (W : WX) (w : DT) : TT := fun σ H Q => ∃ σD S F QD ED, SlR K H σD σ ∧ Mod K H S F ∧ w σD S QD ED ∧ PostB K S F H QD Q ∧ PostX K mg S F H ED (fun c d H' => W c d σ H')
def upA (K : PySem.W.Frag) (mg : Str → Option Value) (W : WX) (w : DA) : TA := fun σ H Q => ∃ σD S F QD ED, SlR K H σD σ ∧ Mod K H S F ∧ w σD S QD ED ∧ PostA K S F H QD Q ∧ PostX K mg S F H ED (fun c d H' => W c d σ H')
/-- a list made by value -/
def upL (K : PySem.W.Frag) (mg : Str → Option Value) (W : WX) (w : DA) : TE := fun σ H Q => ∃ σD S F QD ED, SlR K H σD σ ∧ Mod K H S F ∧ w σD S QD ED ∧ PostL K S F H QD Q ∧ PostX K mg S F H ED (fun c d H' => W c d σ H')

theorem PE.imp {X : Cx} {e : Expr} {t t' : TE} (h : PE X e t) (k : ∀ σ H Q, t' σ H Q → t σ H Q) : PE X e t' := ⟨fun pins s σ H Q I q => h.run pins s σ H Q I (k σ H Q q)⟩
theorem PT.imp {X : Cx} {e : Expr} {t t' : TT} (h : PT X e t) (k : ∀ σ H Q, t' σ H Q → t σ H Q) : PT X e t' := ⟨fun pins s σ H Q I q => h.run pins s σ H Q I (k σ H Q q)⟩
theorem PW.imp {X : Cx} {e : Expr} {t t' : TT} (h : PW X e t) (k : ∀ σ H Q, t' σ H Q → t σ H Q) : PW X e t' := ⟨fun wh pins s σ H Q I q => h.run wh pins s σ H Q I (k σ H Q q)⟩
theorem PA.imp {X : Cx} {es : List Expr} {t t' : TA} (h : PA X es t) (k : ∀ σ H Q, t' σ H Q → t σ H Q) : PA X es t' := ⟨fun pos pins s σ H Q I q => h.run pos pins s σ H Q I (k σ H Q q)⟩
theorem PS.imp {X : Cx} {st : Stmt} {t t' : TS} (h : PS X st t) (k : ∀ D σ H, t' D σ H → t D σ H) : PS X st t' := ⟨fun pins s σ H D I q => h.run pins s σ H D I (k D σ H q)⟩
theorem PSs.imp {X : Cx} {st : List Stmt} {t t' : TS} (h : PSs X st t) (k : ∀ D σ H, t' D σ H → t D σ H) : PSs X st t' := ⟨fun pins s σ H D I q => h.run pins s σ H D I (k D σ H q)⟩

section
variable {K : PySem.W.Frag} {mg : Str → Option Value} {W : WX} {H H1 : Hp} {S S1 : Store} {F F1 : Own} {QD : DK} {ED : XE} {Q : VK} {Wx : Value → Option Addr → Hp → Prop}
theorem Post.after (f : Fm S F H S1 F1 H1) (k : Post K S F H QD Q) : Post K S1 F1 H1 QD Q := fun v H' d S' F' r m f' q => k v H' d S' F' r m (f.trans f') q
theorem PostL.after {QD : List D → Store → Prop} (f : Fm S F H S1 F1 H1) (k : PostL K S F H QD Q) : PostL K S1 F1 H1 QD Q := fun p vs H' ds S' F' h1 h2 h3 h4 r m' f' q =>
  k p vs H' ds S' F' h1 h2 h3 (h4.back f) r m' (f.trans f') q
theorem PostB.after {QD : Bool → Store → Prop} {Q : Bool → Hp → Prop} (f : Fm S F H S1 F1 H1) (k : PostB K S F H QD Q) : PostB K S1 F1 H1 QD Q := fun b H' S' F' m f' q => k b H' S' F' m (f.trans f') q
theorem PostA.after {QD : List D → Store → Prop} {Q : List V → Hp → Prop} (f : Fm S F H S1 F1 H1) (k : PostA K S F H QD Q) : PostA K S1 F1 H1 QD Q := fun vs H' ds S' F' r m f' q => k vs H' ds S' F' r m (f.trans f') q
theorem PostX.after (f : Fm S F H S1 F1 H1) (k : PostX K mg S F H ED Wx) : PostX K mg S1 F1 H1 ED Wx := fun cls dd H' e S' F' r m f' q => k cls dd H' e S' F' r m (f.trans f') q
end
end DL
/-! ## DL3 -/
namespace DL
open PySem PySem.Spec PyProof.Rows L2

abbrev PEd (X : Cx) (W : WX) (e : Expr) (w : DE) : Prop := PE X e (up X.K X.mg W w)
abbrev PTd (X : Cx) (W : WX) (e : Expr) (w : DT) : Prop := PT X e (upT X.K X.mg W w)
abbrev PWd (X : Cx) (W : WX) (e : Expr) (w : DT) : Prop := PW X e (upT X.K X.mg W w)
abbrev PAd (X : Cx) (W : WX) (es : List Expr) (w : DA) : Prop := PA X es (upA X.K X.mg W w)
abbrev PLd (X : Cx) (W : WX) (e : Expr) (w : DA) : Prop := PE X e (upL X.K X.mg W w)
/-- a list that is read, by value -/
def PostV (K : PySem.W.Frag) (S : Store) (F : Own) (H : Hp) (QD : List D → Store → Prop) (Q : VK) : Prop :=
  ∀ p vs H' ds S' F', SqL K H' p vs → Reps K H' ds vs → Mod K H' S' F' → Fm S F H S' F' H' → QD ds S' → Q (.ref p) H'
def upV (K : PySem.W.Frag) (mg : Str → Option Value) (W : WX) (w : DA) : TE := fun σ H Q => ∃ σD S F QD ED, SlR K H σD σ ∧ Mod K H S F ∧ w σD S QD ED ∧ PostV K S F H QD Q ∧ PostX K mg S F H ED (fun c d H' => W c d σ H')
abbrev PVd (X : Cx) (W : WX) (e : Expr) (w : DA) : Prop := PE X e (upV X.K X.mg W w)

/-! ### predicate transformers -/
def wVar (i : Nat) : DE := fun σ S Q _ => match σ[i]? with | some (some d) => Q d S | _ => False
def wC (d : D) : DE := fun _ S Q _ => Q d S
abbrev RD2 := D → D → Store → DK → Prop
def wOp (r : RD2) (wa wb : DE) : DE := fun σ S Q E => wa σ S (fun x S1 => wb σ S1 (fun y S2 => r x y S2 Q) E) E
def wUn (r : D → Store → DK → Prop) (wa : DE) : DE := fun σ S Q E => wa σ S (fun x S1 => r x S1 Q) E
def isB (d : D) (Q : Bool → Store → Prop) (S : Store) : Prop := match d with | .bl b => Q b S | _ => False
theorem isB_e {d : D} {Q : Bool → Store → Prop} {S : Store} (h : isB d Q S) : ∃ b, d = .bl b ∧ Q b S := by
  cases d with
  | bl b => exact ⟨b, rfl, h⟩
  | _ => exact h.elim
def wTst (w : DE) : DT := fun σ S Q E => w σ S (fun d S' => isB d Q S') E
def wChain (r r' : RD2) (wa wb wc : DE) : DE := fun σ S Q E => wa σ S (fun x S1 => wb σ S1 (fun y S2 => r x y S2 (fun z S3 => isB z (fun k S3 => if k = true then wc σ S3 (fun u S4 => r' y u S4 Q) E else Q (.bl false) S3) S3)) E) E
def wAnd (t u : DT) : DT := fun σ S Q E => t σ S (fun b S1 => if b = true then u σ S1 Q E else Q false S1) E
def wOr (t u : DT) : DT := fun σ S Q E => t σ S (fun b S1 => if b = true then Q true S1 else u σ S1 Q E) E
def wNot (t : DT) : DT := fun σ S Q E => t σ S (fun b S1 => Q (!b) S1) E
def wAndV (a b : DE) : DE := fun σ S Q E => a σ S (fun x S1 => isB x (fun c S1 => if c = true then b σ S1 Q E else Q (.bl false) S1) S1) E
def wOrV (a b : DE) : DE := fun σ S Q E => a σ S (fun x S1 => isB x (fun c S1 => if c = true then Q (.bl true) S1 else b σ S1 Q E) S1) E
def wNotV (a : DE) : DE := fun σ S Q E => a σ S (fun x S1 => isB x (fun c S1 => Q (.bl (!c)) S1) S1) E
def wIfE (t : DT) (a b : DE) : DE := fun σ S Q E => t σ S (fun c S1 => if c = true then a σ S1 Q E else b σ S1 Q E) E
def wNil : DA := fun _ S Q _ => Q [] S
def wCons (a : DE) (r : DA) : DA := fun σ S Q E => a σ S (fun x S1 => r σ S1 (fun xs S2 => Q (x :: xs) S2) E) E
def wTup (a : DA) : DE := fun σ S Q E => a σ S (fun xs S1 => xs.length ≤ sizeLine ∧ Q (.tup xs) S1) E
def wLst (a : DA) : DA := fun σ S Q E => a σ S (fun xs S1 => xs.length ≤ sizeLine ∧ Q xs S1) E
/-- a list made by value comes into the store -/
def wNew (a : DA) : DE := fun σ S Q E => a σ S (fun xs S1 => ∀ p, S1 p = none → Q (.ref p) (sup S1 p (.lst xs))) E
def asL (d : D) (S : Store) (Q : List D → Store → Prop) : Prop := match d with | .ref a => (match S a with | some (.lst ds) => Q ds S | _ => False) | _ => False
/-- a list of the store, by value -/
theorem asL_e {d : D} {S : Store} {Q : List D → Store → Prop} (h : asL d S Q) : ∃ a ds, d = .ref a ∧ S a = some (.lst ds) ∧ Q ds S := by
  unfold asL at h
  split at h
  · rename_i a
    split at h
    · rename_i ds e
      exact ⟨a, ds, rfl, e, h⟩
    · exact h.elim
  · exact h.elim
def wDer (a : DE) : DA := fun σ S Q E => a σ S (fun d S1 => asL d S1 Q) E
def wVL (a : DA) (r : List D → Store → DK → Prop) : DE := fun σ S Q E => a σ S (fun xs S1 => r xs S1 Q) E
def wVLL (a : DA) (r : List D → Store → (List D → Store → Prop) → Prop) : DA := fun σ S Q E => a σ S (fun xs S1 => r xs S1 Q) E

/-! ### by values -/
def LR2 (K : PySem.W.Frag) (r : R2) (rD : RD2) : Prop := ∀ x y H d e S F QD Q, Rep K H d x → Rep K H e y → Mod K H S F → rD d e S QD → Post K S F H QD Q → r x y H Q
def LR1 (K : PySem.W.Frag) (r : V → Hp → VK → Prop) (rD : D → Store → DK → Prop) : Prop := ∀ x H d S F QD Q, Rep K H d x → Mod K H S F → rD d S QD → Post K S F H QD Q → r x H Q
def LCV (K : PySem.W.Frag) (r : List V → Hp → VK → Prop) (rD : List D → Store → DK → Prop) : Prop := ∀ p vs H ds S F QD Q, SqL K H p vs → Reps K H ds vs → Mod K H S F → rD ds S QD → Post K S F H QD Q → r [.ref p] H Q
def LCL (K : PySem.W.Frag) (r : List V → Hp → VK → Prop) (rD : List D → Store → (List D → Store → Prop) → Prop) : Prop := ∀ p vs H ds S F QD Q, SqL K H p vs → Reps K H ds vs → Mod K H S F → rD ds S QD → PostL K S F H QD Q → r [.ref p] H Q
def LCA (K : PySem.W.Frag) (r : List V → Hp → VK → Prop) (rD : List D → Store → DK → Prop) : Prop := ∀ vs H ds S F QD Q, Reps K H ds vs → Mod K H S F → rD ds S QD → Post K S F H QD Q → r vs H Q

section
variable {X : Cx} {W : WX} {a b c e : Expr} {es : List Expr} {wa wb wc w : DE} {wt wu : DT} {ws : DA} {pos : Pos} {rest : List Expr}

theorem dpe_var {i : Nat} {x : Str} {pos : Pos} (hN : X.N[i]? = some x) (hv : Vis X.env.scope x) (hd : (x == ("__debug__" : Str)) = false := by decide) (hcd : (x == ("__classdict__" : Str)) = false := by decide) : PEd X W (.Name x pos) (wVar i) :=
  PE.imp (pe_var hN hv hd hcd) fun σ H Q ⟨σD, S, F, QD, ED, sl, m, h, k, _⟩ => by
    unfold wVar at h
    split at h
    · rename_i d e
      obtain ⟨v, h1, h2⟩ := sl.at_ i d e
      exact ⟨v, h1, k v H d S F h2 m (Fm.refl S F H) h⟩
    · exact h.elim
theorem dv (i : Nat) {x : Str} {pos : Pos} (hN : X.N[i]? = some x := by rfl) (hv : Vis X.env.scope x := by first | exact Or.inl rfl | exact Or.inr (Or.inl rfl) | exact Or.inr (Or.inr rfl)) (hd : (x == ("__debug__" : Str)) = false := by decide)
    (hcd : (x == ("__classdict__" : Str)) = false := by decide) : PEd X W (.Name x pos) (wVar i) := dpe_var hN hv hd hcd
theorem dpe_c {v : V} {d : D} (h : PE X e (tC v)) (r : ∀ H, Rep X.K H d v) : PEd X W e (wC d) :=
  PE.imp h fun σ H Q ⟨σD, S, F, QD, ED, sl, m, h, k, _⟩ => k v H d S F (r H) m (Fm.refl S F H) h
theorem dpe_int {i : Int} {j pos} : PEd X W (.Constant (.int i) j pos) (wC (.int i)) := dpe_c pe_int fun _ => rfl
theorem dpe_bl {i : Bool} {j pos} : PEd X W (.Constant (.bool i) j pos) (wC (.bl i)) := dpe_c pe_bl fun _ => rfl
theorem dpe_non {j pos} : PEd X W (.Constant .none j pos) (wC .non) := dpe_c pe_non fun _ => rfl
theorem dpe_str {i : Str} {j pos} : PEd X W (.Constant (.str i) j pos) (wC (.str i)) := dpe_c pe_str fun _ => rfl
/-- a module's constant -/
theorem dpe_glob {x : Str} {v : V} {d : D} {u : Value} {pos : Pos} (hg : Gl X x) (hm : X.mg x = some u) (r : RelV v u) (rd : ∀ H, Rep X.K H d v) (hd : (x == ("__debug__" : Str)) = false := by decide) : PEd X W (.Name x pos) (wC d) := dpe_c (pe_glob hg hm r hd) rd

theorem op_imp {r : R2} {rD : RD2} (hl : LR2 X.K r rD) {σ : L2.St} {H : Hp} {Q : VK} (h : up X.K X.mg W (wOp rD wa wb) σ H Q) : tOp r (up X.K X.mg W wa) (up X.K X.mg W wb) σ H Q := by
  obtain ⟨σD, S, F, QD, ED, sl, m, h, k, kx⟩ := h
  refine ⟨σD, S, F, _, ED, sl, m, h, fun v H1 d S1 F1 r1 m1 f1 h1 => ?_, kx⟩
  refine ⟨σD, S1, F1, _, ED, sl.kp (f1.kp m), m1, h1, fun v2 H2 d2 S2 F2 r2 m2 f2 h2 => ?_, kx.after f1⟩
  exact hl v v2 H2 d d2 S2 F2 QD Q (Rep.kp (f2.kp m1) _ _ r1) r2 m2 h2 (k.after (f1.trans f2))
theorem dpe_op {op : Operator} {r : R2} {rD : RD2} (ho : OpR X (binaryOp op) r) (hl : LR2 X.K r rD) (ha : PEd X W a wa) (hb : PEd X W b wb) : PEd X W (.BinOp a op b pos) (wOp rD wa wb) := PE.imp (pe_op ho ha hb) fun _ _ _ h => op_imp hl h
theorem dpe_un {op : UnaryOp} {r : V → Hp → VK → Prop} {rD : D → Store → DK → Prop} (ho : UnR X (unaryOp op) r) (hl : LR1 X.K r rD) (ha : PEd X W a wa) : PEd X W (.UnaryOp op a pos) (wUn rD wa) :=
  PE.imp (pe_un ho ha) fun σ H Q ⟨σD, S, F, QD, ED, sl, m, h, k, kx⟩ =>
    ⟨σD, S, F, _, ED, sl, m, h, fun v H1 d S1 F1 r1 m1 f1 h1 => hl v H1 d S1 F1 QD Q r1 m1 h1 (k.after f1), kx⟩
theorem dpe_cmp {op : CmpOp} {r : R2} {rD : RD2} (ho : OpR X (compareOp op) r) (hl : LR2 X.K r rD) (ha : PEd X W a wa) (hb : PEd X W b wb) (hm : behindInMarks op b = false) : PEd X W (.Compare a [op] [b] pos) (wOp rD wa wb) := PE.imp (pe_cmpR ho ha hb hm) fun _ _ _ h => op_imp hl h
theorem tst_imp {σ : L2.St} {H : Hp} {Q : Bool → Hp → Prop} (h : upT X.K X.mg W (wTst w) σ H Q) : up X.K X.mg W w σ H (fun x H' => ∃ k, x = .bl k ∧ Q k H') := by
  obtain ⟨σD, S, F, QD, ED, sl, m, h, k, kx⟩ := h
  refine ⟨σD, S, F, _, ED, sl, m, h, fun v H1 d S1 F1 r1 m1 f1 h1 => ?_, kx⟩
  try dsimp only at h1
  obtain ⟨b, rfl, g1⟩ := isB_e h1
  exact ⟨b, r1, k b H1 S1 F1 m1 f1 g1⟩
theorem dpt_cmp {op : CmpOp} {r : R2} {rD : RD2} (ho : OpR X (compareOp op) r) (hl : LR2 X.K r rD) (ha : PEd X W a wa) (hb : PEd X W b wb) (hm : behindInMarks op b = false) : PTd X W (.Compare a [op] [b] pos) (wTst (wOp rD wa wb)) :=
  PT.imp (pt_cmpR ho ha hb hm) fun _ _ _ h => op_imp hl (tst_imp h)
theorem dpt_val (h : PEd X W e w) (he : ∀ whole, isTrue e X.env whole = (do let v ← whole; standAt e.pos; holding [v] (truthy v)) := by intro _; rfl) : PTd X W e (wTst w) :=
  PT.imp (pt_val h he) fun _ _ _ h => tst_imp h
theorem chain_imp {r r' : R2} {rD rD' : RD2} (hl : LR2 X.K r rD) (hl' : LR2 X.K r' rD') {σ : L2.St} {H : Hp} {Q : VK} (h : up X.K X.mg W (wChain rD rD' wa wb wc) σ H Q) : tChain r r' (up X.K X.mg W wa) (up X.K X.mg W wb) (up X.K X.mg W wc) σ H Q := by
  obtain ⟨σD, S, F, QD, ED, sl, m, h, k, kx⟩ := h
  refine ⟨σD, S, F, _, ED, sl, m, h, fun v H1 d S1 F1 r1 m1 f1 h1 => ?_, kx⟩
  refine ⟨σD, S1, F1, _, ED, sl.kp (f1.kp m), m1, h1, fun v2 H2 d2 S2 F2 r2 m2 f2 h2 => ?_, kx.after f1⟩
  refine hl v v2 H2 d d2 S2 F2 _ _ (Rep.kp (f2.kp m1) _ _ r1) r2 m2 h2 fun v3 H3 d3 S3 F3 r3 m3 f3 h3 => ?_
  obtain ⟨b, rfl, g3⟩ := isB_e (d := d3) (S := S3) (Q := fun k S3 => if k = true then wc σD S3 (fun u S4 => rD' d2 u S4 QD) ED else QD (.bl false) S3) h3
  have f123 := (f1.trans f2).trans f3
  refine ⟨b, r3, ?_⟩
  cases b with
  | false => rw [if_neg Bool.false_ne_true] at g3 ⊢; exact k (.bl false) H3 (.bl false) S3 F3 rfl m3 f123 g3
  | true =>
    rw [if_pos rfl] at g3 ⊢
    refine ⟨σD, S3, F3, _, ED, sl.kp (f123.kp m), m3, g3, fun v4 H4 d4 S4 F4 r4 m4 f4 h4 => ?_, kx.after f123⟩
    exact hl' v2 v4 H4 d2 d4 S4 F4 QD Q (Rep.kp ((f3.trans f4).kp m2) _ _ r2) r4 m4 h4 (k.after (f123.trans f4))
theorem dpe_chain {op op' : CmpOp} {r r' : R2} {rD rD' : RD2} (ho : OpR X (compareOp op) r) (ho' : OpR X (compareOp op') r') (hl : LR2 X.K r rD) (hl' : LR2 X.K r' rD') (ha : PEd X W a wa) (hb : PEd X W b wb) (hc : PEd X W c wc)
    (hm : lastMarks [op, op'] [b, c] = false := by with_unfolding_all rfl) : PEd X W (.Compare a [op, op'] [b, c] pos) (wChain rD rD' wa wb wc) := PE.imp (pe_chain ho ho' ha hb hc hm) fun _ _ _ h => chain_imp hl hl' h
theorem dpt_chain {op op' : CmpOp} {r r' : R2} {rD rD' : RD2} (ho : OpR X (compareOp op) r) (ho' : OpR X (compareOp op') r') (hl : LR2 X.K r rD) (hl' : LR2 X.K r' rD') (ha : PEd X W a wa) (hb : PEd X W b wb) (hc : PEd X W c wc)
    (hm : lastMarks [op, op'] [b, c] = false := by with_unfolding_all rfl) : PTd X W (.Compare a [op, op'] [b, c] pos) (wTst (wChain rD rD' wa wb wc)) := PT.imp (pt_chain ho ho' ha hb hc hm) fun _ _ _ h => chain_imp hl hl' (tst_imp h)

theorem dpw_pt (h : PWd X W e wt) : PTd X W e wt := h.pt
theorem dpw_and1 (ha : PTd X W a wt) : PWd X W (.BoolOp .And [a] pos) wt := pw_and1 ha
theorem dpw_or1 (ha : PTd X W a wt) : PWd X W (.BoolOp .Or [a] pos) wt := pw_or1 ha
theorem dpw_and (ha : PTd X W a wt) (hb : PWd X W (.BoolOp .And (b :: rest) pos) wu) : PWd X W (.BoolOp .And (a :: b :: rest) pos) (wAnd wt wu) :=
  PW.imp (pw_and ha hb) fun σ H Q ⟨σD, S, F, QD, ED, sl, m, h, k, kx⟩ => by
    refine ⟨σD, S, F, _, ED, sl, m, h, fun b H1 S1 F1 m1 f1 h1 => ?_, kx⟩
    cases b with
    | true => rw [if_pos rfl] at h1 ⊢; exact ⟨σD, S1, F1, QD, ED, sl.kp (f1.kp m), m1, h1, k.after f1, kx.after f1⟩
    | false => rw [if_neg Bool.false_ne_true] at h1 ⊢; exact k _ _ _ _ m1 f1 h1
theorem dpw_or (ha : PTd X W a wt) (hb : PWd X W (.BoolOp .Or (b :: rest) pos) wu) : PWd X W (.BoolOp .Or (a :: b :: rest) pos) (wOr wt wu) :=
  PW.imp (pw_or ha hb) fun σ H Q ⟨σD, S, F, QD, ED, sl, m, h, k, kx⟩ => by
    refine ⟨σD, S, F, _, ED, sl, m, h, fun b H1 S1 F1 m1 f1 h1 => ?_, kx⟩
    cases b with
    | false => rw [if_neg Bool.false_ne_true] at h1 ⊢; exact ⟨σD, S1, F1, QD, ED, sl.kp (f1.kp m), m1, h1, k.after f1, kx.after f1⟩
    | true => rw [if_pos rfl] at h1 ⊢; exact k _ _ _ _ m1 f1 h1
theorem dpt_not (ha : PTd X W a wt) : PTd X W (.UnaryOp .Not a pos) (wNot wt) :=
  PT.imp (pt_not ha) fun σ H Q ⟨σD, S, F, QD, ED, sl, m, h, k, kx⟩ => ⟨σD, S, F, _, ED, sl, m, h, fun b H1 S1 F1 m1 f1 h1 => k _ _ _ _ m1 f1 h1, kx⟩
theorem dpe_one {op} (h : PEd X W a w) : PEd X W (.BoolOp op [a] pos) w := pe_one h
theorem dpe_and (ha : PEd X W a wa) (hb : PEd X W (.BoolOp .And (b :: rest) pos) wb) : PEd X W (.BoolOp .And (a :: b :: rest) pos) (wAndV wa wb) :=
  PE.imp (pe_and ha hb) fun σ H Q ⟨σD, S, F, QD, ED, sl, m, h, k, kx⟩ => by
    refine ⟨σD, S, F, _, ED, sl, m, h, fun v H1 d S1 F1 r1 m1 f1 h1 => ?_, kx⟩
    try dsimp only at h1
    obtain ⟨b, rfl, g1⟩ := isB_e h1
    refine ⟨b, r1, ?_⟩
    cases b with
    | true => rw [if_pos rfl] at g1 ⊢; exact ⟨σD, S1, F1, QD, ED, sl.kp (f1.kp m), m1, g1, k.after f1, kx.after f1⟩
    | false => rw [if_neg Bool.false_ne_true] at g1 ⊢; exact k (.bl _) H1 (.bl _) S1 F1 rfl m1 f1 g1
theorem dpe_or (ha : PEd X W a wa) (hb : PEd X W (.BoolOp .Or (b :: rest) pos) wb) : PEd X W (.BoolOp .Or (a :: b :: rest) pos) (wOrV wa wb) :=
  PE.imp (pe_or ha hb) fun σ H Q ⟨σD, S, F, QD, ED, sl, m, h, k, kx⟩ => by
    refine ⟨σD, S, F, _, ED, sl, m, h, fun v H1 d S1 F1 r1 m1 f1 h1 => ?_, kx⟩
    try dsimp only at h1
    obtain ⟨b, rfl, g1⟩ := isB_e h1
    refine ⟨b, r1, ?_⟩
    cases b with
    | false => rw [if_neg Bool.false_ne_true] at g1 ⊢; exact ⟨σD, S1, F1, QD, ED, sl.kp (f1.kp m), m1, g1, k.after f1, kx.after f1⟩
    | true => rw [if_pos rfl] at g1 ⊢; exact k (.bl _) H1 (.bl _) S1 F1 rfl m1 f1 g1
theorem dpe_not (ha : PEd X W a wa) : PEd X W (.UnaryOp .Not a pos) (wNotV wa) :=
  PE.imp (pe_not ha) fun σ H Q ⟨σD, S, F, QD, ED, sl, m, h, k, kx⟩ => by
    refine ⟨σD, S, F, _, ED, sl, m, h, fun v H1 d S1 F1 r1 m1 f1 h1 => ?_, kx⟩
    try dsimp only at h1
    obtain ⟨b, rfl, g1⟩ := isB_e h1
    exact ⟨b, r1, k (.bl _) H1 (.bl _) S1 F1 rfl m1 f1 g1⟩
theorem dpe_ifE (hc : PTd X W c wt) (ha : PEd X W a wa) (hb : PEd X W b wb) : PEd X W (.IfExp c a b pos) (wIfE wt wa wb) :=
  PE.imp (pe_ifExp hc ha hb) fun σ H Q ⟨σD, S, F, QD, ED, sl, m, h, k, kx⟩ => by
    refine ⟨σD, S, F, _, ED, sl, m, h, fun b H1 S1 F1 m1 f1 h1 => ?_, kx⟩
    cases b with
    | false => rw [if_neg Bool.false_ne_true] at h1 ⊢; exact ⟨σD, S1, F1, QD, ED, sl.kp (f1.kp m), m1, h1, k.after f1, kx.after f1⟩
    | true => rw [if_pos rfl] at h1 ⊢; exact ⟨σD, S1, F1, QD, ED, sl.kp (f1.kp m), m1, h1, k.after f1, kx.after f1⟩

/-! ### argument lists, displays -/
theorem dpa_nil : PAd X W [] wNil := PA.imp pa_nil fun σ H Q ⟨σD, S, F, QD, ED, sl, m, h, k, kx⟩ => k [] H [] S F rfl m (Fm.refl S F H) h
theorem dpa_cons (ha : PEd X W e w) (hr : PAd X W es ws) (hs : starEach (e :: es) X.env = (false, eval e X.env) :: starEach es X.env := by rfl) : PAd X W (e :: es) (wCons w ws) :=
  PA.imp (pa_cons ha hr hs) fun σ H Q ⟨σD, S, F, QD, ED, sl, m, h, k, kx⟩ => by
    refine ⟨σD, S, F, _, ED, sl, m, h, fun v H1 d S1 F1 r1 m1 f1 h1 => ?_, kx⟩
    exact ⟨σD, S1, F1, _, ED, sl.kp (f1.kp m), m1, h1, fun vs H2 ds S2 F2 r2 m2 f2 h2 => k (v :: vs) H2 (d :: ds) S2 F2 ⟨v, vs, rfl, Rep.kp (f2.kp m1) _ _ r1, r2⟩ m2 (f1.trans f2) h2, kx.after f1⟩
theorem dpe_tup {x1} (h : PAd X W es ws) : PEd X W (.Tuple es x1 pos) (wTup ws) :=
  PE.imp (pe_tup h) fun σ H Q ⟨σD, S, F, QD, ED, sl, m, h, k, kx⟩ => by
    refine ⟨σD, S, F, _, ED, sl, m, h, fun vs H1 ds S1 F1 r1 m1 f1 h1 => ⟨by rw [← r1.length]; exact h1.1, fun p hp => ?_⟩, kx⟩
    exact k (.ref p) _ (.tup ds) S1 F1 ⟨p, vs, rfl, .inl (.inl upd_same), Reps.kp (kp_new hp) _ _ r1⟩ (m1.laid hp) (f1.trans (Fm.laid hp)) h1.2
theorem dpl_lst (h : PAd X W es ws) : PLd X W (.List es pos) (wLst ws) :=
  PE.imp (pe_lst h) fun σ H Q ⟨σD, S, F, QD, ED, sl, m, h, k, kx⟩ => by
    refine ⟨σD, S, F, _, ED, sl, m, h, fun vs H1 ds S1 F1 r1 m1 f1 h1 => ⟨by rw [← r1.length]; exact h1.1, fun p hp => ?_⟩, kx⟩
    obtain ⟨hs, hf⟩ := m1.fresh hp
    exact k p vs _ ds S1 F1 upd_same hs hf (Nw.back f1 (.inr (.inr hp))) (Reps.kp (kp_new hp) _ _ r1) (m1.laid hp) (f1.trans (Fm.laid hp)) h1.2
/-- it comes into the store -/
theorem dpe_new (h : PLd X W e ws) : PEd X W e (wNew ws) :=
  PE.imp h fun σ H Q ⟨σD, S, F, QD, ED, sl, m, h, k, kx⟩ => by
    refine ⟨σD, S, F, _, ED, sl, m, h, fun p vs H1 ds S1 F1 h1 h2 h3 n r1 m1 f1 q => ?_, kx⟩
    exact k (.ref p) H1 (.ref p) (sup S1 p (.lst ds)) F1 rfl (m1.adopt h2 h3 ⟨vs, h1, r1⟩) (f1.adopt n) (q p h2)
theorem dpv_new (h : PLd X W e ws) : PVd X W e ws :=
  PE.imp h fun σ H Q ⟨σD, S, F, QD, ED, sl, m, h, k, kx⟩ => ⟨σD, S, F, _, ED, sl, m, h, fun p vs H1 ds S1 F1 h1 h2 h3 n r1 m1 f1 q => k p vs H1 ds S1 F1 (.inl (.inl h1)) r1 m1 f1 q, kx⟩
theorem dpv_var (h : PEd X W e w) : PVd X W e (wDer w) :=
  PE.imp h fun σ H Q ⟨σD, S, F, QD, ED, sl, m, h, k, kx⟩ => by
    refine ⟨σD, S, F, _, ED, sl, m, h, fun v H1 d S1 F1 r1 m1 f1 h1 => ?_, kx⟩
    obtain ⟨a, ds, rfl, e1, g1⟩ := asL_e h1
    obtain ⟨vs, h2, h3⟩ := m1.obj _ _ e1
    cases r1
    exact k a vs H1 ds S1 F1 (.inl (.inl h2)) h3 m1 f1 g1

/-! ### built-in calls -/
section
variable {x : Str} {p : Pos} {id T : String} {r : List V → Hp → VK → Prop} {rD : List D → Store → DK → Prop} {rL : List D → Store → (List D → Store → Prop) → Prop}
theorem vl_imp (hl : LCV X.K r rD) {σ : L2.St} {H : Hp} {Q : VK} (h : up X.K X.mg W (wVL ws rD) σ H Q) : tCB r (tCons (upV X.K X.mg W ws) tNil) σ H Q := by
  obtain ⟨σD, S, F, QD, ED, sl, m, h, k, kx⟩ := h
  exact ⟨σD, S, F, _, ED, sl, m, h, fun p vs H1 ds S1 F1 q1 r1 m1 f1 h1 => hl p vs H1 ds S1 F1 QD Q q1 r1 m1 h1 (k.after f1), kx⟩
theorem vll_imp (hl : LCL X.K r rL) {σ : L2.St} {H : Hp} {Q : VK} (h : upL X.K X.mg W (wVLL ws rL) σ H Q) : tCB r (tCons (upV X.K X.mg W ws) tNil) σ H Q := by
  obtain ⟨σD, S, F, QD, ED, sl, m, h, k, kx⟩ := h
  exact ⟨σD, S, F, _, ED, sl, m, h, fun p vs H1 ds S1 F1 q1 r1 m1 f1 h1 => hl p vs H1 ds S1 F1 QD Q q1 r1 m1 h1 (k.after f1), kx⟩
theorem ca_imp (hl : LCA X.K r rD) {σ : L2.St} {H : Hp} {Q : VK} (h : up X.K X.mg W (wVL ws rD) σ H Q) : tCB r (upA X.K X.mg W ws) σ H Q := by
  obtain ⟨σD, S, F, QD, ED, sl, m, h, k, kx⟩ := h
  exact ⟨σD, S, F, _, ED, sl, m, h, fun vs H1 ds S1 F1 r1 m1 f1 h1 => hl vs H1 ds S1 F1 QD Q r1 m1 h1 (k.after f1), kx⟩
/-- f(xs), xs a list by value -/
theorem dpe_bv (hc : CallR X (.builtin id) r) (hl : LCV X.K r rD) (hg : Gl X x) (hm : X.mg x = none) (hv : bootBuiltins x = some (.builtin id)) (ha : PVd X W e ws) (hs : starEach [e] X.env = (false, eval e X.env) :: starEach [] X.env := by rfl) (hn : x ≠ "__name__" := by decide) (hdb : (x == ("__debug__" : Str)) = false := by decide) :
    PEd X W (.Call (.Name x p) [e] [] pos) (wVL ws rD) := PE.imp (pe_callB hc hg hm hv (pa_cons ha pa_nil hs) hn hdb hs rfl) fun _ _ _ h => vl_imp hl h
theorem dpe_tv (hc : CallR X (.type T) r) (hl : LCV X.K r rD) (hg : Gl X x) (hm : X.mg x = none) (hv : bootBuiltins x = some (.type T)) (ha : PVd X W e ws) (hs : starEach [e] X.env = (false, eval e X.env) :: starEach [] X.env := by rfl) (hn : x ≠ "__name__" := by decide) (hdb : (x == ("__debug__" : Str)) = false := by decide) :
    PEd X W (.Call (.Name x p) [e] [] pos) (wVL ws rD) := PE.imp (pe_callTy hc hg hm hv (pa_cons ha pa_nil hs) hn hdb hs rfl) fun _ _ _ h => vl_imp hl h
theorem dpl_bv (hc : CallR X (.builtin id) r) (hl : LCL X.K r rL) (hg : Gl X x) (hm : X.mg x = none) (hv : bootBuiltins x = some (.builtin id)) (ha : PVd X W e ws) (hs : starEach [e] X.env = (false, eval e X.env) :: starEach [] X.env := by rfl) (hn : x ≠ "__name__" := by decide) (hdb : (x == ("__debug__" : Str)) = false := by decide) :
    PLd X W (.Call (.Name x p) [e] [] pos) (wVLL ws rL) := PE.imp (pe_callB hc hg hm hv (pa_cons ha pa_nil hs) hn hdb hs rfl) fun _ _ _ h => vll_imp hl h
theorem dpl_tv (hc : CallR X (.type T) r) (hl : LCL X.K r rL) (hg : Gl X x) (hm : X.mg x = none) (hv : bootBuiltins x = some (.type T)) (ha : PVd X W e ws) (hs : starEach [e] X.env = (false, eval e X.env) :: starEach [] X.env := by rfl) (hn : x ≠ "__name__" := by decide) (hdb : (x == ("__debug__" : Str)) = false := by decide) :
    PLd X W (.Call (.Name x p) [e] [] pos) (wVLL ws rL) := PE.imp (pe_callTy hc hg hm hv (pa_cons ha pa_nil hs) hn hdb hs rfl) fun _ _ _ h => vll_imp hl h
/-- f(a, ..) by values -/
theorem dpe_ba (hc : CallR X (.builtin id) r) (hl : LCA X.K r rD) (hg : Gl X x) (hm : X.mg x = none) (hv : bootBuiltins x = some (.builtin id)) (ha : PAd X W (e :: es) ws) (hn : x ≠ "__name__" := by decide) (hdb : (x == ("__debug__" : Str)) = false := by decide)
    (he : starEach (e :: es) X.env = (false, eval e X.env) :: starEach es X.env := by rfl) (hpl : (backTo pos (starEach es X.env)).any (·.1) = false := by rfl) :
    PEd X W (.Call (.Name x p) (e :: es) [] pos) (wVL ws rD) := PE.imp (pe_callB hc hg hm hv ha hn hdb he hpl) fun _ _ _ h => ca_imp hl h
theorem dpe_ta (hc : CallR X (.type T) r) (hl : LCA X.K r rD) (hg : Gl X x) (hm : X.mg x = none) (hv : bootBuiltins x = some (.type T)) (ha : PAd X W (e :: es) ws) (hn : x ≠ "__name__" := by decide) (hdb : (x == ("__debug__" : Str)) = false := by decide)
    (he : starEach (e :: es) X.env = (false, eval e X.env) :: starEach es X.env := by rfl) (hpl : (backTo pos (starEach es X.env)).any (·.1) = false := by rfl) :
    PEd X W (.Call (.Name x p) (e :: es) [] pos) (wVL ws rD) := PE.imp (pe_callTy hc hg hm hv ha hn hdb he hpl) fun _ _ _ h => ca_imp hl h
end
end
end DL
/-! ## DL4 -/
namespace DL
open PySem PySem.Spec PyProof.Rows L2

/-! ### ints -/
def dI0 (g : Int → Int → D) : RD2 := fun d e S Q => match d, e with | .int i, .int j => Q (g i j) S | _, _ => False
def dI (C : Int → Int → Prop) (g : Int → Int → D) : RD2 := fun d e S Q => match d, e with | .int i, .int j => C i j ∧ Q (g i j) S | _, _ => False
section
variable {K : PySem.W.Frag}
theorem lr_I0 {g : Int → Int → V} {gD : Int → Int → D} (h : ∀ i j H, Rep K H (gD i j) (g i j)) : LR2 K (rI0 g) (dI0 gD) := by
  intro x y H d e S F QD Q rx ry m q k
  cases d <;> cases e <;> first | exact q.elim | skip
  rename_i i j
  exact ⟨i, j, rx, ry, k _ H _ S F (h i j H) m (Fm.refl S F H) q⟩
theorem lr_I {C : Int → Int → Prop} {g : Int → Int → V} {gD : Int → Int → D} (h : ∀ i j H, Rep K H (gD i j) (g i j)) : LR2 K (rI C g) (dI C gD) := by
  intro x y H d e S F QD Q rx ry m q k
  cases d <;> cases e <;> first | exact q.elim | skip
  rename_i i j
  exact ⟨i, j, rx, ry, q.1, k _ H _ S F (h i j H) m (Fm.refl S F H) q.2⟩
abbrev dAdd : RD2 := dI0 fun i j => .int (i + j)
abbrev dSub : RD2 := dI0 fun i j => .int (i - j)
abbrev dMul : RD2 := dI CMul fun i j => .int (i * j)
abbrev dDiv : RD2 := dI CDivW fun i j => .int (i / j)
abbrev dMod : RD2 := dI (fun _ j => 0 < j) fun i j => .int (i % j)
abbrev dPow : RD2 := dI CPow fun i j => .int (i ^ j.toNat)
abbrev dLt : RD2 := dI0 fun i j => .bl (decide (i < j))
abbrev dLe : RD2 := dI0 fun i j => .bl (decide (i ≤ j))
abbrev dGt : RD2 := dI0 fun i j => .bl (decide (j < i))
abbrev dGe : RD2 := dI0 fun i j => .bl (decide (j ≤ i))
theorem lr_int {f : Int → Int → Int} : LR2 K (rI0 fun i j => .int (f i j)) (dI0 fun i j => .int (f i j)) := lr_I0 fun _ _ _ => rfl
theorem lr_cmp {f : Int → Int → Bool} : LR2 K (rI0 fun i j => .bl (f i j)) (dI0 fun i j => .bl (f i j)) := lr_I0 fun _ _ _ => rfl
theorem lr_intC {C : Int → Int → Prop} {f : Int → Int → Int} : LR2 K (rI C fun i j => .int (f i j)) (dI C fun i j => .int (f i j)) := lr_I fun _ _ _ => rfl
def dU (g : Int → Int) : D → Store → DK → Prop := fun d S Q => match d with | .int i => Q (.int (g i)) S | _ => False
theorem lr_neg : LR1 K (rU fun i => .int (-i)) (dU fun i => -i) := by
  intro x H d S F QD Q rx m q k
  cases d <;> first | exact q.elim | skip
  rename_i i
  exact ⟨i, rx, k (.int (-i)) H (.int (-i)) S F rfl m (Fm.refl S F H) q⟩

/-! ### == -/
mutual
def PyR (S : Store) : PyData → D → Prop
  | .none, d => d = .non
  | .bool b, d => d = .bl b
  | .int i, d => d = .int i
  | .str x, d => d = .str x
  | .tuple ps, d => ∃ ds, d = .tup ds ∧ PyRs S ps ds
  | .list ps, d => ∃ a ds, d = .ref a ∧ S a = some (.lst ds) ∧ PyRs S ps ds
  | .dict _, _ => False
def PyRs (S : Store) : List PyData → List D → Prop
  | [], ds => ds = []
  | p :: ps, ds => ∃ d dr, ds = d :: dr ∧ PyR S p d ∧ PyRs S ps dr
end
section
variable {H : Hp} {S : Store} {F : Own}
mutual
theorem PyR.dp (m : Mod K H S F) : ∀ (p : PyData) (d : D) (v : V), PyR S p d → Rep K H d v → Dp K H v p
  | .none, _, _, h, r => by cases h; cases r; exact .non
  | .bool b, _, _, h, r => by cases h; cases r; exact .bl b
  | .int i, _, _, h, r => by cases h; cases r; exact .int i
  | .str x, _, _, h, r => by cases h; cases r; exact .str x
  | .tuple ps, _, _, h, r => by
    obtain ⟨ds, rfl, h⟩ := h
    obtain ⟨q, vs, rfl, t, r⟩ := r
    exact .tup t (PyRs.dp m ps ds vs h r)
  | .list ps, _, _, h, r => by
    obtain ⟨a, ds, rfl, e, h⟩ := h
    cases r
    obtain ⟨vs, e2, r⟩ := m.obj _ _ e
    exact .lst (SqL.of e2) (PyRs.dp m ps ds vs h r)
  | .dict _, _, _, h, _ => h.elim
theorem PyRs.dp (m : Mod K H S F) : ∀ (ps : List PyData) (ds : List D) (vs : List V), PyRs S ps ds → Reps K H ds vs → DpAll K H vs ps
  | [], _, _, h, r => by cases h; cases r; exact .nil
  | p :: ps, _, _, h, r => by
    obtain ⟨d, dr, rfl, h1, h2⟩ := h
    obtain ⟨v, vr, rfl, r1, r2⟩ := r
    exact .cons (PyR.dp m p d v h1 r1) (PyRs.dp m ps dr vr h2 r2)
end
end
def dEq : RD2 := fun d e S Q => ∃ p q, PyR S p d ∧ PyR S q e ∧ SeqAt.shaped p = true ∧ SeqAt.shaped q = true ∧ Q (.bl (PyData.eqv p q)) S
def dNe : RD2 := fun d e S Q => ∃ p q, PyR S p d ∧ PyR S q e ∧ SeqAt.shaped p = true ∧ SeqAt.shaped q = true ∧ Q (.bl (!PyData.eqv p q)) S
theorem lr_eq : LR2 K (rEqD K) dEq := by
  intro x y H d e S F QD Q rx ry m ⟨p, q, h1, h2, s1, s2, h⟩ k
  exact ⟨p, q, h1.dp m _ _ _ rx, h2.dp m _ _ _ ry, s1, s2, k (.bl _) H (.bl _) S F rfl m (Fm.refl S F H) h⟩
theorem lr_ne : LR2 K (rNeD K) dNe := by
  intro x y H d e S F QD Q rx ry m ⟨p, q, h1, h2, s1, s2, h⟩ k
  exact ⟨p, q, h1.dp m _ _ _ rx, h2.dp m _ _ _ ry, s1, s2, k (.bl _) H (.bl _) S F rfl m (Fm.refl S F H) h⟩
/-- of scalars -/
def dEqS : RD2 := fun d e S Q => match d, e with
  | .non, .non => Q (.bl true) S | .int i, .int j => Q (.bl (decide (i = j))) S | .bl i, .bl j => Q (.bl (decide (i = j))) S | .str i, .str j => Q (.bl (decide (i = j))) S
  | _, _ => False
def dNeS : RD2 := fun d e S Q => match d, e with
  | .non, .non => Q (.bl false) S | .int i, .int j => Q (.bl (!decide (i = j))) S | .bl i, .bl j => Q (.bl (!decide (i = j))) S | .str i, .str j => Q (.bl (!decide (i = j))) S
  | _, _ => False
theorem dec_iff {p q : Prop} [Decidable p] [Decidable q] (h : p ↔ q) : decide p = decide q := by simp [h]
theorem lr_eqS : LR2 K rEq dEqS := by
  intro x y H d e S F QD Q rx ry m h k
  cases d <;> cases e <;> first | exact h.elim | skip
  all_goals (cases rx; cases ry; refine ⟨rfl, ?_⟩)
  · exact k (.bl _) H (.bl true) S F rfl m (Fm.refl S F H) h
  · rw [dec_iff (show _ ↔ _ from ⟨fun z => V.bl.inj z, fun z => by rw [z]⟩)]; exact k (.bl _) H (.bl _) S F rfl m (Fm.refl S F H) h
  · rw [dec_iff (show _ ↔ _ from ⟨fun z => V.int.inj z, fun z => by rw [z]⟩)]; exact k (.bl _) H (.bl _) S F rfl m (Fm.refl S F H) h
  · rw [dec_iff (show _ ↔ _ from ⟨fun z => V.str.inj z, fun z => by rw [z]⟩)]; exact k (.bl _) H (.bl _) S F rfl m (Fm.refl S F H) h
theorem lr_neS : LR2 K rNe dNeS := by
  intro x y H d e S F QD Q rx ry m h k
  cases d <;> cases e <;> first | exact h.elim | skip
  all_goals (cases rx; cases ry; refine ⟨rfl, ?_⟩)
  · exact k (.bl _) H (.bl false) S F rfl m (Fm.refl S F H) h
  · rw [dec_iff (show _ ↔ _ from ⟨fun z => V.bl.inj z, fun z => by rw [z]⟩)]; exact k (.bl _) H (.bl _) S F rfl m (Fm.refl S F H) h
  · rw [dec_iff (show _ ↔ _ from ⟨fun z => V.int.inj z, fun z => by rw [z]⟩)]; exact k (.bl _) H (.bl _) S F rfl m (Fm.refl S F H) h
  · rw [dec_iff (show _ ↔ _ from ⟨fun z => V.str.inj z, fun z => by rw [z]⟩)]; exact k (.bl _) H (.bl _) S F rfl m (Fm.refl S F H) h
/-- is None -/
def isNon : D → Bool | .non => true | _ => false
def dIsN : RD2 := fun d e S Q => match e with | .non => Q (.bl (isNon d)) S | _ => False
def dNotN : RD2 := fun d e S Q => match e with | .non => Q (.bl (!isNon d)) S | _ => False
theorem isNon_rep {H : Hp} : ∀ {d : D} {v : V}, Rep K H d v → decide (v = .non) = isNon d
  | .non, _, h => by cases h; rfl
  | .bl _, _, h => by cases h; rfl
  | .int _, _, h => by cases h; rfl
  | .str _, _, h => by cases h; rfl
  | .ref _, _, h => by cases h; rfl
  | .tup _, _, h => by obtain ⟨p, vs, rfl, _⟩ := h; rfl
  | .rl _, _, h => by obtain ⟨p, vs, rfl, _⟩ := h; rfl
  | .kl _, _, h => by obtain ⟨p, vs, rfl, _⟩ := h; rfl
  | .fn _ _, _, h => by obtain ⟨f, _, _, _, _, _, rfl, _⟩ := h; rfl
  | .fnS _ _ _, _, h => by obtain ⟨⟨f, _, _, _, _, _, rfl, _⟩, _⟩ := h; rfl
theorem lr_isN : LR2 K (fun x y H Q => y = .non ∧ Q (.bl (decide (x = .non))) H) dIsN := by
  intro x y H d e S F QD Q rx ry m h k
  cases e <;> first | exact h.elim | skip
  refine ⟨ry, ?_⟩
  rw [isNon_rep rx]
  exact k (.bl _) H (.bl _) S F rfl m (Fm.refl S F H) h
theorem lr_notN : LR2 K (fun x y H Q => y = .non ∧ Q (.bl (!decide (x = .non))) H) dNotN := by
  intro x y H d e S F QD Q rx ry m h k
  cases e <;> first | exact h.elim | skip
  refine ⟨ry, ?_⟩
  rw [isNon_rep rx]
  exact k (.bl _) H (.bl _) S F rfl m (Fm.refl S F H) h

/-! ### tuples -/
def dCat : RD2 := fun d e S Q => match d, e with | .tup xs, .tup ys => xs.length + ys.length ≤ sizeLine ∧ Q (.tup (xs ++ ys)) S | _, _ => False
theorem lr_cat : LR2 K (rCatA K) dCat := by
  intro x y H d e S F QD Q rx ry m h k
  cases d <;> cases e <;> first | exact h.elim | skip
  rename_i xs ys
  obtain ⟨a, vs, rfl, ta, ra⟩ := rx
  obtain ⟨b, ws, rfl, tb, rb⟩ := ry
  refine ⟨a, b, vs, ws, rfl, rfl, ta, tb, by rw [← ra.length, ← rb.length]; exact h.1, fun e => ?_, fun _ e => ?_, fun _ _ p hp => ?_⟩
  · have e' := ra.nil_iff.mp e
    subst e'
    exact k (.ref b) H (.tup ys) S F ⟨b, ws, rfl, tb, rb⟩ m (Fm.refl S F H) h.2
  · have e' := rb.nil_iff.mp e
    subst e'
    refine k (.ref a) H (.tup (xs ++ [])) S F ?_ m (Fm.refl S F H) h.2
    rw [List.append_nil]
    exact ⟨a, vs, rfl, ta, ra⟩
  · exact k (.ref p) _ (.tup (xs ++ ys)) S F ⟨p, vs ++ ws, rfl, .inl (.inl upd_same), Reps.kp (kp_new hp) _ _ (ra.append rb)⟩ (m.laid hp) (Fm.laid hp) h.2
def dRep : RD2 := fun d e S Q => match d, e with | .tup xs, .int k => xs ≠ [] ∧ 2 ≤ k ∧ k ≤ 1000 ∧ xs.length ≤ 1000 ∧ Q (.tup (List.replicate k.toNat xs).flatten) S | _, _ => False
theorem Reps.rep {H : Hp} {ds : List D} {vs : List V} (h : Reps K H ds vs) : ∀ n : Nat, Reps K H (List.replicate n ds).flatten (List.replicate n vs).flatten
  | 0 => rfl
  | n + 1 => by rw [List.replicate_succ, List.replicate_succ, List.flatten_cons, List.flatten_cons]; exact h.append (Reps.rep h n)
theorem lr_rep : LR2 K (rRepT K) dRep := by
  intro x y H d e S F QD Q rx ry m h k
  cases d <;> cases e <;> first | exact h.elim | skip
  rename_i xs n
  obtain ⟨a, vs, rfl, ta, ra⟩ := rx
  cases ry
  obtain ⟨h1, h2, h3, h4, h5⟩ := h
  exact ⟨a, n, vs, rfl, rfl, ta, fun z => h1 (ra.nil_iff.mp z), h2, h3, by rw [← ra.length]; exact h4, fun p hp => k (.ref p) _ (.tup _) S F ⟨p, _, rfl, .inl (.inl upd_same), Reps.kp (kp_new hp) _ _ (ra.rep _)⟩ (m.laid hp) (Fm.laid hp) h5⟩

/-! ### places -/
theorem Reps.atI {H : Hp} {ds : List D} {vs : List V} {i : Int} {d : D} (h : Reps K H ds vs) (e : atI ds i = some d) : ∃ v, atI vs i = some v ∧ Rep K H d v := by
  unfold L2.atI at e ⊢
  rw [← h.length]
  cases q : ixN ds.length i with
  | none => rw [q] at e; cases e
  | some j =>
    rw [q] at e
    exact h.get e
def dIx : RD2 := fun d e S Q => match d, e with
  | .tup xs, .int i => (match atI xs i with | some v => Q v S | none => False)
  | .ref a, .int i => (match S a with | some (.lst xs) => (match atI xs i with | some v => Q v S | none => False) | _ => False)
  | .str z, .int i => z.length ≤ sizeLine ∧ (match atI z.cps.toList i with | some c => Q (.str ⟨#[c]⟩) S | none => False)
  | _, _ => False
theorem lr_ix : LR2 K (rIx K) dIx := by
  intro x y H d e S F QD Q rx ry m h k
  cases d <;> cases e <;> first | exact h.elim | skip
  · rename_i z i
    obtain ⟨h0, h⟩ := h
    split at h
    · rename_i c q
      cases rx; cases ry
      exact .inr (.inr ⟨z, i, c, rfl, rfl, h0, q, k (.str _) H (.str _) S F rfl m (Fm.refl S F H) h⟩)
    · exact h.elim
  · rename_i xs i
    obtain ⟨a, vs, rfl, ta, ra⟩ := rx
    cases ry
    unfold dIx at h
    dsimp only at h
    split at h
    · rename_i v q
      obtain ⟨w, h1, h2⟩ := ra.atI q
      exact .inr (.inl ⟨a, vs, i, w, rfl, rfl, ta, h1, k _ H _ S F h2 m (Fm.refl S F H) h⟩)
    · exact h.elim
  · rename_i a i
    cases rx; cases ry
    unfold dIx at h
    dsimp only at h
    split at h
    · rename_i xs q
      split at h
      · rename_i v q2
        obtain ⟨vs, h1, h2⟩ := m.obj _ _ q
        obtain ⟨w, h3, h4⟩ := h2.atI q2
        exact .inl ⟨a, vs, i, w, rfl, rfl, SqL.of h1, h3, k _ H _ S F h4 m (Fm.refl S F H) h⟩
      · exact h.elim
    · exact h.elim
end
section
variable {X : Cx} {W : WX} {a b c e : Expr} {es : List Expr} {wa wb wc w : DE} {wt wu : DT} {ws vs : DA} {pos p2 : Pos}
theorem dpe_ix (ha : PEd X W a wa) (hb : PEd X W b wb) (hs : PlainIx b) : PEd X W (.Subscript a b pos) (wOp dIx wa wb) := PE.imp (pe_ix ix_seq ha hb hs) fun _ _ _ h => op_imp lr_ix h
/-- [a, b, ..][i] -/
def wIxV (wa : DA) (wb : DE) : DE := fun σ S Q E => wa σ S (fun xs S1 => wb σ S1 (fun y S2 => match y with | .int i => (match atI xs i with | some v => Q v S2 | none => False) | _ => False) E) E
/-- after a list made by value its address stays its own -/
theorem own_after {K : PySem.W.Frag} {S S1 : Store} {F F1 : Own} {H H1 : Hp} (f : Fm S F H S1 F1 H1) {p : Addr} {vs : List V} (h1 : H p = some (.lst vs)) (h2 : S p = none) (h3 : F p = none) : H1 p = some (.lst vs) ∧ S1 p = none ∧ F1 p = none := f.cl h1 h2 h3
theorem dpe_ixV (ha : PLd X W a ws) (hb : PEd X W b wb) (hs : PlainIx b) : PEd X W (.Subscript a b pos) (wIxV ws wb) :=
  PE.imp (pe_ix ix_list ha hb hs) fun σ H Q ⟨σD, S, F, QD, ED, sl, m, h, k, kx⟩ => by
    refine ⟨σD, S, F, _, ED, sl, m, h, fun p vs H1 ds S1 F1 q1 q2 q3 n r1 m1 f1 h1 => ?_, kx⟩
    refine ⟨σD, S1, F1, _, ED, sl.kp (f1.kp m), m1, h1, fun v2 H2 d2 S2 F2 r2 m2 f2 h2 => ?_, kx.after f1⟩
    obtain ⟨z1, z2, z3⟩ := f2.cl q1 q2 q3
    cases d2 <;> first | exact h2.elim | skip
    rename_i i
    dsimp only at h2
    split at h2
    · rename_i v q
      obtain ⟨w, h3, h4⟩ := Reps.atI r1 q
      exact ⟨p, vs, i, w, rfl, r2, SqL.of z1, h3, k _ H2 _ S2 F2 (Rep.kp (f2.kp m1) _ _ h4) m2 (f1.trans f2) h2⟩
    · exact h2.elim

/-! ### lists by value, compared -/
def wEqL (wa wb : DA) (neg : Bool) : DE := fun σ S Q E => wa σ S (fun xs S1 => wb σ S1 (fun ys S2 => ∃ ps qs, PyRs S2 ps xs ∧ PyRs S2 qs ys ∧ SeqAt.shaped (.list ps) = true ∧ SeqAt.shaped (.list qs) = true ∧ Q (.bl (if neg then !PyData.eqvAll ps qs else PyData.eqvAll ps qs)) S2) E) E
theorem eqL_imp {r : R2} {neg : Bool} (hr : ∀ x y H Q, (∃ d e, Dp X.K H x d ∧ Dp X.K H y e ∧ SeqAt.shaped d = true ∧ SeqAt.shaped e = true ∧ Q (.bl (if neg then !PyData.eqv d e else PyData.eqv d e)) H) → r x y H Q) {σ : L2.St} {H : Hp} {Q : VK} (h : up X.K X.mg W (wEqL ws vs neg) σ H Q) :
    tOp r (upL X.K X.mg W ws) (upL X.K X.mg W vs) σ H Q := by
  obtain ⟨σD, S, F, QD, ED, sl, m, h, k, kx⟩ := h
  refine ⟨σD, S, F, _, ED, sl, m, h, fun p vs H1 ds S1 F1 q1 q2 q3 n r1 m1 f1 h1 => ?_, kx⟩
  refine ⟨σD, S1, F1, _, ED, sl.kp (f1.kp m), m1, h1, fun p' vs' H2 ds' S2 F2 q1' q2' q3' n' r2 m2 f2 h2 => ?_, kx.after f1⟩
  obtain ⟨z1, z2, z3⟩ := f2.cl q1 q2 q3
  obtain ⟨ps, qs, a1, a2, a3, a4, a5⟩ := h2
  refine hr _ _ _ _ ⟨.list ps, .list qs, .lst (SqL.of z1) (a1.dp m2 _ _ _ (Reps.kp (f2.kp m1) _ _ r1)), .lst (SqL.of q1') (a2.dp m2 _ _ _ r2), a3, a4, ?_⟩
  refine k (.bl _) H2 (.bl _) S2 F2 ?_ m2 (f1.trans f2) a5
  cases neg <;> simp [Rep, PyData.eqv]
theorem dpe_eqL (hu : X.A.units + 64 < cLine) (ha : PLd X W a ws) (hb : PLd X W b vs) (hm : behindInMarks .Eq b = false) : PEd X W (.Compare a [.Eq] [b] pos) (wEqL ws vs false) := PE.imp (pe_cmpR (op_eqD hu) ha hb hm) fun _ _ _ h => eqL_imp (fun _ _ _ _ q => q) h
theorem dpe_neL (hu : X.A.units + 64 < cLine) (ha : PLd X W a ws) (hb : PLd X W b vs) (hm : behindInMarks .NotEq b = false) : PEd X W (.Compare a [.NotEq] [b] pos) (wEqL ws vs true) := PE.imp (pe_cmpR (op_neD hu) ha hb hm) fun _ _ _ h => eqL_imp (fun _ _ _ _ q => q) h
theorem dpt_eqL (hu : X.A.units + 64 < cLine) (ha : PLd X W a ws) (hb : PLd X W b vs) (hm : behindInMarks .Eq b = false) : PTd X W (.Compare a [.Eq] [b] pos) (wTst (wEqL ws vs false)) := PT.imp (pt_cmpR (op_eqD hu) ha hb hm) fun _ _ _ h => eqL_imp (fun _ _ _ _ q => q) (tst_imp h)
theorem dpt_neL (hu : X.A.units + 64 < cLine) (ha : PLd X W a ws) (hb : PLd X W b vs) (hm : behindInMarks .NotEq b = false) : PTd X W (.Compare a [.NotEq] [b] pos) (wTst (wEqL ws vs true)) := PT.imp (pt_cmpR (op_neD hu) ha hb hm) fun _ _ _ h => eqL_imp (fun _ _ _ _ q => q) (tst_imp h)
/-- a value (a list of the store, a tuple ..) against a list made by value -/
def wEqVL (wa : DE) (wb : DA) (neg : Bool) : DE := fun σ S Q E => wa σ S (fun d S1 => wb σ S1 (fun ys S2 => ∃ p qs, PyR S2 p d ∧ PyRs S2 qs ys ∧ SeqAt.shaped p = true ∧ SeqAt.shaped (.list qs) = true ∧ Q (.bl (if neg then !PyData.eqv p (.list qs) else PyData.eqv p (.list qs))) S2) E) E
theorem eqVL_imp {r : R2} {neg : Bool} (hr : ∀ x y H Q, (∃ d e, Dp X.K H x d ∧ Dp X.K H y e ∧ SeqAt.shaped d = true ∧ SeqAt.shaped e = true ∧ Q (.bl (if neg then !PyData.eqv d e else PyData.eqv d e)) H) → r x y H Q) {σ : L2.St} {H : Hp} {Q : VK} (h : up X.K X.mg W (wEqVL wa vs neg) σ H Q) :
    tOp r (up X.K X.mg W wa) (upL X.K X.mg W vs) σ H Q := by
  obtain ⟨σD, S, F, QD, ED, sl, m, h, k, kx⟩ := h
  refine ⟨σD, S, F, _, ED, sl, m, h, fun v H1 d S1 F1 r1 m1 f1 h1 => ?_, kx⟩
  refine ⟨σD, S1, F1, _, ED, sl.kp (f1.kp m), m1, h1, fun p' vs' H2 ds' S2 F2 q1' q2' q3' n' r2 m2 f2 h2 => ?_, kx.after f1⟩
  obtain ⟨p, qs, a1, a2, a3, a4, a5⟩ := h2
  refine hr _ _ _ _ ⟨p, .list qs, a1.dp m2 _ _ _ (Rep.kp (f2.kp m1) _ _ r1), .lst (SqL.of q1') (a2.dp m2 _ _ _ r2), a3, a4, ?_⟩
  exact k (.bl _) H2 (.bl _) S2 F2 rfl m2 (f1.trans f2) a5
theorem dpe_eqVL (hu : X.A.units + 64 < cLine) (ha : PEd X W a wa) (hb : PLd X W b vs) (hm : behindInMarks .Eq b = false) : PEd X W (.Compare a [.Eq] [b] pos) (wEqVL wa vs false) := PE.imp (pe_cmpR (op_eqD hu) ha hb hm) fun _ _ _ h => eqVL_imp (fun _ _ _ _ q => q) h
theorem dpt_eqVL (hu : X.A.units + 64 < cLine) (ha : PEd X W a wa) (hb : PLd X W b vs) (hm : behindInMarks .Eq b = false) : PTd X W (.Compare a [.Eq] [b] pos) (wTst (wEqVL wa vs false)) := PT.imp (pt_cmpR (op_eqD hu) ha hb hm) fun _ _ _ h => eqVL_imp (fun _ _ _ _ q => q) (tst_imp h)
theorem dpt_neVL (hu : X.A.units + 64 < cLine) (ha : PEd X W a wa) (hb : PLd X W b vs) (hm : behindInMarks .NotEq b = false) : PTd X W (.Compare a [.NotEq] [b] pos) (wTst (wEqVL wa vs true)) := PT.imp (pt_cmpR (op_neD hu) ha hb hm) fun _ _ _ h => eqVL_imp (fun _ _ _ _ q => q) (tst_imp h)

/-! ### slices -/
abbrev DO := DSt → Store → (Option Int → Store → Prop) → XE → Prop
def upO (K : PySem.W.Frag) (mg : Str → Option Value) (W : WX) (w : DO) : TO := fun σ H Q => ∃ σD S F QD ED, SlR K H σD σ ∧ Mod K H S F ∧ w σD S QD ED ∧ (∀ o H' S' F', Mod K H' S' F' → Fm S F H S' F' H' → QD o S' → Q o H') ∧ PostX K mg S F H ED (fun c d H' => W c d σ H')
abbrev POd (X : Cx) (W : WX) (e : Option Expr) (w : DO) : Prop := PO X e (upO X.K X.mg W w)
def wNo : DO := fun _ S Q _ => Q none S
def wPart (w : DE) : DO := fun σ S Q E => w σ S (fun d S1 => match d with | .int i => Q (some i) S1 | _ => False) E
theorem PO.imp {e : Option Expr} {t t' : TO} (h : PO X e t) (k : ∀ σ H Q, t' σ H Q → t σ H Q) : PO X e t' := ⟨fun pins s σ H Q I q => h.run pins s σ H Q I (k σ H Q q)⟩
theorem dpo_none : POd X W none wNo := PO.imp po_none fun σ H Q ⟨σD, S, F, QD, ED, sl, m, h, k, kx⟩ => k none H S F m (Fm.refl S F H) h
theorem dpo_some (h : PEd X W e w) : POd X W (some e) (wPart w) := PO.imp (po_some h) fun σ H Q ⟨σD, S, F, QD, ED, sl, m, h, k, kx⟩ => by
  refine ⟨σD, S, F, _, ED, sl, m, h, fun v H1 d S1 F1 r1 m1 f1 h1 => ?_, kx⟩
  cases d <;> first | exact h1.elim | skip
  rename_i i
  exact ⟨i, r1, k (some i) H1 S1 F1 m1 f1 h1⟩
def cutD (xs : List D) (lo hi : Option Int) : List D := (xs.drop (HT.sIx xs.length 0 lo)).take (HT.sIx xs.length xs.length hi - HT.sIx xs.length 0 lo)
theorem Reps.cut {K : PySem.W.Frag} {H : Hp} {ds : List D} {vs : List V} (h : Reps K H ds vs) (lo hi : Option Int) : Reps K H (cutD ds lo hi) (cutV vs lo hi) := by
  unfold cutD cutV
  rw [h.length]
  exact (h.drop _).take _
def dSlT (d : D) (lo hi : Option Int) (S : Store) (Q : DK) : Prop := match d with | .tup xs => Q (.tup (cutD xs lo hi)) S | _ => False
def wSlT (w : DE) (l u : DO) : DE := fun σ S Q E => w σ S (fun d S1 => l σ S1 (fun lo S2 => u σ S2 (fun hi S3 => dSlT d lo hi S3 Q) E) E) E
theorem dpe_slT {lo hi : Option Expr} {l u : DO} (he : PEd X W e w) (hl : POd X W lo l) (hu : POd X W hi u) : PEd X W (.Subscript e (.Slice lo hi none p2) pos) (wSlT w l u) :=
  PE.imp (pe_slice sl_tupA he hl hu) fun σ H Q ⟨σD, S, F, QD, ED, sl, m, h, k, kx⟩ => by
    refine ⟨σD, S, F, _, ED, sl, m, h, fun v H1 d S1 F1 r1 m1 f1 h1 => ?_, kx⟩
    refine ⟨σD, S1, F1, _, ED, sl.kp (f1.kp m), m1, h1, fun lo H2 S2 F2 m2 f2 h2 => ?_, kx.after f1⟩
    have f12 := f1.trans f2
    refine ⟨σD, S2, F2, _, ED, sl.kp (f12.kp m), m2, h2, fun hi H3 S3 F3 m3 f3 h3 => ?_, kx.after f12⟩
    have f123 := f12.trans f3
    cases d <;> first | exact h3.elim | skip
    rename_i xs
    obtain ⟨a, vs, rfl, ta, ra⟩ := Rep.kp ((f2.trans f3).kp m1) _ _ r1
    refine ⟨a, vs, rfl, ta, fun q => ?_, fun q p hp => ?_⟩
    · refine k (.ref a) H3 (.tup (cutD xs lo hi)) S3 F3 ⟨a, vs, rfl, ta, ?_⟩ m3 f123 h3
      have e : cutD xs lo hi = xs := by
        unfold cutD
        rw [ra.length, q.1, q.2]
        simp [← ra.length]
      rw [e]; exact ra
    · exact k (.ref p) _ (.tup (cutD xs lo hi)) S3 F3 ⟨p, _, rfl, .inl (.inl upd_same), Reps.kp (kp_new hp) _ _ (ra.cut lo hi)⟩ (m3.laid hp) (f123.trans (Fm.laid hp)) h3
/-- of a list of the store: a new list -/
def wSlL (w : DA) (l u : DO) : DA := fun σ S Q E => w σ S (fun xs S1 => l σ S1 (fun lo S2 => u σ S2 (fun hi S3 => Q (cutD xs lo hi) S3) E) E) E
end
end DL
/-! ## DL5 -/
namespace DL
open PySem PySem.Spec PyProof.Rows L2

/-! ### statements -/
structure DEnds where
  nx : DSt → Store → Prop
  rt : DK
  ex : ExcD → DSt → Store → Prop
  bk : DSt → Store → Prop := fun _ _ => False
  ct : DSt → Store → Prop := fun _ _ => False
abbrev DS := DEnds → DSt → Store → Prop
def PostS (K : PySem.W.Frag) (S : Store) (F : Own) (H : Hp) (QD : DSt → Store → Prop) (Q : L2.St → Hp → Prop) : Prop :=
  ∀ σ' H' σD' S' F', SlR K H' σD' σ' → Mod K H' S' F' → Fm S F H S' F' H' → QD σD' S' → Q σ' H'
def PostSX (K : PySem.W.Frag) (mg : Str → Option Value) (S : Store) (F : Own) (H : Hp) (ED : ExcD → DSt → Store → Prop) (W : WX) : Prop :=
  ∀ cls dd σ' H' e σD' S' F', ExcR K mg H' e cls dd → SlR K H' σD' σ' → Mod K H' S' F' → Fm S F H S' F' H' → ED e σD' S' → W cls dd σ' H'
structure EndsR (K : PySem.W.Frag) (mg : Str → Option Value) (W : WX) (S : Store) (F : Own) (H : Hp) (DD : DEnds) (D : Ends) : Prop where
  nx : PostS K S F H DD.nx D.nx
  rt : Post K S F H DD.rt D.rt
  bk : PostS K S F H DD.bk D.bk
  ct : PostS K S F H DD.ct D.ct
  ex : PostSX K mg S F H DD.ex W
def upS (K : PySem.W.Frag) (mg : Str → Option Value) (W : WX) (w : DS) : TS := fun D σ H => ∃ σD S F DD, SlR K H σD σ ∧ Mod K H S F ∧ w DD σD S ∧ EndsR K mg W S F H DD D
abbrev PSd (X : Cx) (W : WX) (st : Stmt) (w : DS) : Prop := PS X st (upS X.K X.mg W w)
abbrev PSsd (X : Cx) (W : WX) (st : List Stmt) (w : DS) : Prop := PSs X st (upS X.K X.mg W w)
section
variable {K : PySem.W.Frag} {mg : Str → Option Value} {W : WX} {H H1 : Hp} {S S1 : Store} {F F1 : Own} {DD : DEnds} {D : Ends}
theorem PostS.after {QD : DSt → Store → Prop} {Q : L2.St → Hp → Prop} (f : Fm S F H S1 F1 H1) (k : PostS K S F H QD Q) : PostS K S1 F1 H1 QD Q := fun σ' H' σD' S' F' sl m f' q => k σ' H' σD' S' F' sl m (f.trans f') q
theorem PostSX.after {ED : ExcD → DSt → Store → Prop} (f : Fm S F H S1 F1 H1) (k : PostSX K mg S F H ED W) : PostSX K mg S1 F1 H1 ED W := fun cls dd σ' H' e σD' S' F' r sl m f' q => k cls dd σ' H' e σD' S' F' r sl m (f.trans f') q
theorem EndsR.after (f : Fm S F H S1 F1 H1) (k : EndsR K mg W S F H DD D) : EndsR K mg W S1 F1 H1 DD D := ⟨k.nx.after f, k.rt.after f, k.bk.after f, k.ct.after f, k.ex.after f⟩
theorem PostSX.ex {ED : ExcD → DSt → Store → Prop} (k : PostSX K mg S F H ED W) (m : Mod K H S F) {σD : DSt} {σ : L2.St} (sl : SlR K H σD σ) : PostX K mg S F H (fun e S' => ED e σD S') (fun c d H' => W c d σ H') :=
  fun cls dd H' e S' F' r m' f q => k cls dd σ H' e σD S' F' r (sl.kp (f.kp m)) m' f q
end
def wSeq (t u : DS) : DS := fun D σ S => t { D with nx := fun σ' S' => u D σ' S' } σ S
def wNext : DS := fun D σ S => D.nx σ S
def wBreak : DS := fun D σ S => D.bk σ S
def wCont : DS := fun D σ S => D.ct σ S
def wDrop (w : DE) : DS := fun D σ S => w σ S (fun _ S' => D.nx σ S') (fun e S' => D.ex e σ S')
def wRet (w : DE) : DS := fun D σ S => w σ S D.rt (fun e S' => D.ex e σ S')
def wRetN : DS := fun D _ S => D.rt .non S
def wIf (c : DT) (t u : DS) : DS := fun D σ S => c σ S (fun b S' => if b = true then t D σ S' else u D σ S') (fun e S' => D.ex e σ S')
abbrev DG := D → DSt → Store → (DSt → Store → Prop) → Prop
def wAsg (w : DE) (g : DG) : DS := fun D σ S => w σ S (fun d S' => g d σ S' D.nx) (fun e S' => D.ex e σ S')
def gNm (i : Nat) : DG := fun d σ S Q => Q (σ.set i (some d)) S
def upG (K : PySem.W.Frag) (vs : List Nat) (g : DG) : TG := fun v σ H Q => ∃ d σD S F QD, Rep K H d v ∧ SlR K H σD σ ∧ Mod K H S F ∧ g d σD S QD ∧
  (∀ σ' H' σD' S' F', (∀ j, j ∉ vs → σ'[j]? = σ[j]?) → σ'.length = σ.length → SlR K H' σD' σ' → Mod K H' S' F' → Fm S F H S' F' H' → QD σD' S' → Q σ' H')
abbrev PGd (X : Cx) (vs : List Nat) (e : Expr) (g : DG) : Prop := PG X e (upG X.K vs g)
theorem PG.imp {X : Cx} {e : Expr} {t t' : TG} (h : PG X e t) (k : ∀ v σ H Q, t' v σ H Q → t v σ H Q) : PG X e t' := ⟨fun pins s σ H v u Q I r q => h.run pins s σ H v u Q I r (k v σ H Q q)⟩
theorem PGs.imp {X : Cx} {e : List Expr} {t t' : TGs} (h : PGs X e t) (k : ∀ v σ H Q, t' v σ H Q → t v σ H Q) : PGs X e t' := ⟨fun pins s σ H v u Q I r q => h.run pins s σ H v u Q I r (k v σ H Q q)⟩
section
variable {X : Cx} {W : WX} {st : Stmt} {rest a b body : List Stmt} {e c tg : Expr} {w : DE} {wt : DT} {ws : DA} {t u : DS} {pos : Pos} {g : DG} {vs : List Nat}
theorem dpss_nil : PSsd X W [] wNext := PSs.imp pss_nil fun D σ H ⟨σD, S, F, DD, sl, m, h, k⟩ => k.nx σ H σD S F sl m (Fm.refl S F H) h
theorem dpss_cons (h1 : PSd X W st t) (h2 : PSsd X W rest u) : PSsd X W (st :: rest) (wSeq t u) := PSs.imp (pss_cons h1 h2) fun D σ H ⟨σD, S, F, DD, sl, m, h, k⟩ =>
  ⟨σD, S, F, { DD with nx := fun σ' S' => u DD σ' S' }, sl, m, h, ⟨fun σ' H' σD' S' F' sl' m' f q => ⟨σD', S', F', DD, sl', m', q, k.after f⟩, k.rt, k.bk, k.ct, k.ex⟩⟩
theorem dpss_one (h1 : PSd X W st t) : PSsd X W [st] t := pss_one h1
theorem dps_pass : PSd X W (.Pass pos) wNext := PS.imp ps_pass fun D σ H ⟨σD, S, F, DD, sl, m, h, k⟩ => k.nx σ H σD S F sl m (Fm.refl S F H) h
theorem dps_break : PSd X W (.Break pos) wBreak := PS.imp ps_break fun D σ H ⟨σD, S, F, DD, sl, m, h, k⟩ => k.bk σ H σD S F sl m (Fm.refl S F H) h
theorem dps_cont : PSd X W (.Continue pos) wCont := PS.imp ps_continue fun D σ H ⟨σD, S, F, DD, sl, m, h, k⟩ => k.ct σ H σD S F sl m (Fm.refl S F H) h
theorem dps_expr (he : PEd X W e w) (hs : swapsWith e none pos.line X.env = pure false := by rfl) : PSd X W (.Expr e pos) (wDrop w) := PS.imp (ps_expr he hs) fun D σ H ⟨σD, S, F, DD, sl, m, h, k⟩ =>
  ⟨σD, S, F, _, _, sl, m, h, fun v H' d S' F' r m' f q => k.nx σ H' σD S' F' (sl.kp (f.kp m)) m' f q, k.ex.ex m sl⟩
theorem dps_ret (he : PEd X W e w) : PSd X W (.Return (some e) pos) (wRet w) := PS.imp (ps_ret he) fun D σ H ⟨σD, S, F, DD, sl, m, h, k⟩ => ⟨σD, S, F, _, _, sl, m, h, k.rt, k.ex.ex m sl⟩
theorem dps_retN : PSd X W (.Return none pos) wRetN := PS.imp ps_retN fun D σ H ⟨σD, S, F, DD, sl, m, h, k⟩ => k.rt .non H .non S F rfl m (Fm.refl S F H) h
theorem dps_if (hc : PTd X W c wt) (ha : PSsd X W a t) (hb : PSsd X W b u) : PSd X W (.If c a b pos) (wIf wt t u) := PS.imp (ps_if hc ha hb) fun D σ H ⟨σD, S, F, DD, sl, m, h, k⟩ => by
  refine ⟨σD, S, F, _, _, sl, m, h, fun b H' S' F' m' f q => ?_, k.ex.ex m sl⟩
  cases b with
  | true => rw [if_pos rfl] at q ⊢; exact ⟨σD, S', F', DD, sl.kp (f.kp m), m', q, k.after f⟩
  | false => rw [if_neg Bool.false_ne_true] at q ⊢; exact ⟨σD, S', F', DD, sl.kp (f.kp m), m', q, k.after f⟩
theorem set_other {σ : L2.St} {i : Nat} {v : V} (hi : i ∈ vs) : ∀ j, j ∉ vs → (σ.set i (some v))[j]? = σ[j]? := fun j hj => by
  rw [List.getElem?_set_ne (fun z => by subst z; exact hj hi)]
theorem dpg_name {i : Nat} {x : Str} (hN : X.N.Nodup) (hi : X.N[i]? = some x) (hx : Loc X.env.scope x) (hv : i ∈ vs := by decide) (hf : X.fn x = true ∨ X.env.scope.names.lookup x = some .local := by first | exact .inl rfl | exact .inr rfl | assumption) : PGd X vs (.Name x pos) (gNm i) :=
  PG.imp (pg_name hN hi hx hf) fun v σ H Q ⟨d, σD, S, F, QD, r, sl, m, h, k⟩ => k _ H _ S F (set_other hv) (by rw [List.length_set]) (sl.set i r) m (Fm.refl S F H) h
theorem dps_asg (he : PEd X W e w) (hg : PGd X vs tg g) (hs : swapsWithSole [tg] e pos.line X.env = pure false := by rfl) (hw : swappedStores [tg] e X.env = pure none := by rfl)
    (h1 : (assignEach [tg] X.env).map (·.2) = [assign tg X.env] := by rfl) : PSd X W (.Assign [tg] e pos) (wAsg w g) := PS.imp (ps_asg he hg hs hw h1) fun D σ H ⟨σD, S, F, DD, sl, m, h, k⟩ =>
  ⟨σD, S, F, _, _, sl, m, h, fun v H' d S' F' r m' f q => ⟨d, σD, S', F', _, r, sl.kp (f.kp m), m', q, fun σ2 H2 σD2 S2 F2 _ _ sl2 m2 f2 q2 => k.nx σ2 H2 σD2 S2 F2 sl2 m2 (f.trans f2) q2⟩, k.ex.ex m sl⟩
theorem dps_set {i : Nat} {x : Str} {pos' : Pos} (hN : X.N.Nodup) (hi : X.N[i]? = some x) (hx : Loc X.env.scope x) (he : PEd X W e w) (hs : swapsWith e (some (.Name x pos')) pos.line X.env = pure false := by rfl) (hf : X.fn x = true ∨ X.env.scope.names.lookup x = some .local := by first | exact .inl rfl | exact .inr rfl | assumption) :
    PSd X W (.Assign [.Name x pos'] e pos) (wAsg w (gNm i)) := PS.imp (ps_set hN hi hx he hs hf) fun D σ H ⟨σD, S, F, DD, sl, m, h, k⟩ =>
  ⟨σD, S, F, _, _, sl, m, h, fun v H' d S' F' r m' f q => k.nx _ H' _ S' F' ((sl.kp (f.kp m)).set i r) m' f q, k.ex.ex m sl⟩
/-- a, b = e1, e2 -/
def wPar (i j : Nat) (a : DA) : DS := fun D σ S => a σ S (fun ds S' => match ds with | [d, e] => D.nx ((σ.set i (some d)).set j (some e)) S' | _ => False) (fun e S' => D.ex e σ S')
theorem dps_par {i j : Nat} {x y : Str} {p q : Expr} {px py pt : Pos} {kt k2 pt2} (hc : X.calm = true) (hN : X.N.Nodup) (hi : X.N[i]? = some x) (hj : X.N[j]? = some y) (hij : i ≠ j)
    (hx : X.env.scope.names.lookup x = some .local) (hy : X.env.scope.names.lookup y = some .local) (ha : PAd X W [p, q] ws)
    (hw : swappedStores [.Tuple [.Name x px, .Name y py] kt pt] (.Tuple [p, q] k2 pt2) X.env = pure (some [x, y]))
    (hs : swapsWithSole [.Tuple [.Name x px, .Name y py] kt pt] (.Tuple [p, q] k2 pt2) pos.line X.env = pure false := by rfl) :
    PSd X W (.Assign [.Tuple [.Name x px, .Name y py] kt pt] (.Tuple [p, q] k2 pt2) pos) (wPar i j ws) := PS.imp (ps_par hc hN hi hj hij hx hy ha hw hs) fun D σ H ⟨σD, S, F, DD, sl, m, h, k⟩ => by
  refine ⟨σD, S, F, _, _, sl, m, h, fun vs H' ds S' F' r m' f q => ?_, k.ex.ex m sl⟩
  dsimp only at q
  split at q
  · obtain ⟨v, vr, rfl, r1, v2, vr2, rfl, r2, rfl⟩ := r
    exact ⟨v, v2, rfl, k.nx _ H' _ S' F' (((sl.kp (f.kp m)).set i r1).set j r2) m' f q⟩
  · exact q.elim

/-! ### what is walked -/
abbrev SF := Hp → Store → Own → Prop
structure Srv (K : PySem.W.Frag) (J : It) (ds : List D) (St : Store → Prop) (B : SF) : Prop where
  bk : ∀ S F H S' F' H', Mod K H S F → Fm S F H S' F' H' → B H S F → B H' S' F'
  go : ∀ i S F H, i < ds.length → B H S F → Mod K H S F → St S → J.go i H
  stop : ∀ S F H, B H S F → Mod K H S F → St S → J.stop ds.length H
  yld : ∀ i S F H x H', B H S F → Mod K H S F → St S → J.yld i H x H' → i < ds.length → ∃ d, ds[i]? = some d ∧ Rep K H' d x ∧ Mod K H' S F ∧ Fm S F H S F H'
abbrev DI := DSt → Store → (List D → (Store → Prop) → Store → Prop) → XE → Prop
def upI (K : PySem.W.Frag) (mg : Str → Option Value) (W : WX) (w : DI) : TI := fun σ H R => ∃ σD S F QD ED, SlR K H σD σ ∧ Mod K H S F ∧ w σD S QD ED ∧
  (∀ J H' ds St B S' F', Srv K J ds St B → B H' S' F' → Mod K H' S' F' → Fm S F H S' F' H' → QD ds St S' → R J H') ∧ PostX K mg S F H ED (fun c d H' => W c d σ H')
abbrev PId (X : Cx) (W : WX) (tg it : Expr) (w : DI) : Prop := PI X tg it (upI X.K X.mg W w)
theorem PI.imp {tg it : Expr} {t t' : TI} (h : PI X tg it t) (k : ∀ σ H R, t' σ H R → t σ H R) : PI X tg it t' := ⟨fun pins s σ H R I q => h.run pins s σ H R I (k σ H R q)⟩
def iTp (w : DE) : DI := fun σ S Q E => w σ S (fun d S' => match d with | .tup xs => Q xs (fun _ => True) S' | _ => False) E
def iLs (w : DE) : DI := fun σ S Q E => w σ S (fun d S' => match d with | .ref a => (match S' a with | some (.lst xs) => Q xs (fun S => S a = some (.lst xs)) S' | _ => False) | _ => False) E
def iNw (w : DA) : DI := fun σ S Q E => w σ S (fun ds S' => Q ds (fun _ => True) S') E
def rngD (lo : Int) (n : Nat) : List D := (List.range n).map fun (i : Nat) => .int (lo + i)
def iR1 (w : DA) : DI := fun σ S Q E => w σ S (fun ds S' => match ds with | [.int j] => (-(2 ^ 62) ≤ j ∧ j < 2 ^ 62) ∧ Q (rngD 0 j.toNat) (fun _ => True) S' | _ => False) E
def iR2 (w : DA) : DI := fun σ S Q E => w σ S (fun ds S' => match ds with | [.int i, .int j] => (-(2 ^ 62) ≤ i ∧ i < 2 ^ 62 ∧ -(2 ^ 62) ≤ j ∧ j < 2 ^ 62) ∧ Q (rngD i (j - i).toNat) (fun _ => True) S' | _ => False) E
theorem srv_tup {K : PySem.W.Frag} {a : Addr} {ds : List D} : Srv K (Itt K a) ds (fun _ => True) (fun H _ _ => ∃ vs, SqT K H a vs ∧ Reps K H ds vs) where
  bk := fun S F H S' F' H' m f ⟨vs, h1, h2⟩ => ⟨vs, SqT.kp (f.kp m) h1, Reps.kp (f.kp m) _ _ h2⟩
  go := fun i S F H hi ⟨vs, h1, h2⟩ m _ => ⟨vs, vs[i]'(by rw [← h2.length]; exact hi), h1, by simp⟩
  stop := fun S F H ⟨vs, h1, h2⟩ m _ => ⟨vs, h1, by rw [h2.length]; exact Nat.le_refl _⟩
  yld := fun i S F H x H' ⟨vs, h1, h2⟩ m _ ⟨e, y⟩ hi => by
    subst e
    obtain ⟨v, e1, r⟩ := h2.get (List.getElem?_eq_getElem hi)
    have e2 := y vs h1
    rw [e1] at e2; cases e2
    exact ⟨_, List.getElem?_eq_getElem hi, r, m, Fm.refl _ _ _⟩
theorem srv_lst {K : PySem.W.Frag} {a : Addr} {ds : List D} : Srv K (Itl K a) ds (fun S => S a = some (.lst ds)) (fun _ _ _ => True) where
  bk := fun _ _ _ _ _ _ _ _ _ => True.intro
  go := fun i S F H hi _ m e => by
    obtain ⟨vs, h1, h2⟩ := m.obj _ _ e
    exact ⟨vs, vs[i]'(by rw [← h2.length]; exact hi), SqL.of h1, by simp⟩
  stop := fun S F H _ m e => by
    obtain ⟨vs, h1, h2⟩ := m.obj _ _ e
    exact ⟨vs, SqL.of h1, by rw [h2.length]; exact Nat.le_refl _⟩
  yld := fun i S F H x H' _ m e ⟨e', y⟩ hi => by
    subst e'
    obtain ⟨vs, h1, h2⟩ := m.obj _ _ e
    obtain ⟨v, e1, r⟩ := h2.get (List.getElem?_eq_getElem hi)
    have e2 := y vs (SqL.of h1)
    rw [e1] at e2; cases e2
    exact ⟨_, List.getElem?_eq_getElem hi, r, m, Fm.refl _ _ _⟩
theorem srv_new {K : PySem.W.Frag} {a : Addr} {ds : List D} : Srv K (Itl K a) ds (fun _ => True) (fun H S F => ∃ vs, H a = some (.lst vs) ∧ S a = none ∧ F a = none ∧ Reps K H ds vs) where
  bk := fun S F H S' F' H' m f ⟨vs, h1, h2, h3, h4⟩ => by
    obtain ⟨z1, z2, z3⟩ := f.cl h1 h2 h3
    exact ⟨vs, z1, z2, z3, Reps.kp (f.kp m) _ _ h4⟩
  go := fun i S F H hi ⟨vs, h1, _, _, h2⟩ m _ => ⟨vs, vs[i]'(by rw [← h2.length]; exact hi), SqL.of h1, by simp⟩
  stop := fun S F H ⟨vs, h1, _, _, h2⟩ m _ => ⟨vs, SqL.of h1, by rw [h2.length]; exact Nat.le_refl _⟩
  yld := fun i S F H x H' ⟨vs, h1, _, _, h2⟩ m _ ⟨e', y⟩ hi => by
    subst e'
    obtain ⟨v, e1, r⟩ := h2.get (List.getElem?_eq_getElem hi)
    have e2 := y vs (SqL.of h1)
    rw [e1] at e2; cases e2
    exact ⟨_, List.getElem?_eq_getElem hi, r, m, Fm.refl _ _ _⟩
theorem srv_rng {K : PySem.W.Frag} {lo : Int} {n : Nat} : Srv K (Itr lo n) (rngD lo n) (fun _ => True) (fun _ _ _ => True) where
  bk := fun _ _ _ _ _ _ _ _ _ => True.intro
  go := fun i S F H hi _ m _ => by
    have hi' : i < n := by simpa [rngD] using hi
    exact hi'
  stop := fun S F H _ m _ => by
    have e : (rngD lo n).length = n := by simp [rngD]
    rw [e]
    exact Nat.le_refl _
  yld := fun i S F H x H' _ m _ ⟨e', y⟩ hi => by
    subst e' y
    have hi' : i < n := by simpa [rngD] using hi
    exact ⟨.int (lo + i), by simp [rngD, hi'], rfl, m, Fm.refl _ _ _⟩
theorem dpi_tup (hl : PEd X W e w) : PId X W tg e (iTp w) := PI.imp (pi_tup hl) fun σ H R ⟨σD, S, F, QD, ED, sl, m, h, k, kx⟩ => by
  refine ⟨σD, S, F, _, ED, sl, m, h, fun v H1 d S1 F1 r1 m1 f1 h1 => ?_, kx⟩
  cases d <;> first | exact h1.elim | skip
  obtain ⟨a, vs, rfl, t, r⟩ := r1
  exact ⟨a, rfl, ⟨vs, t⟩, k _ H1 _ _ _ S1 F1 srv_tup ⟨vs, t, r⟩ m1 f1 h1⟩
theorem dpi_lst (hl : PEd X W e w) : PId X W tg e (iLs w) := PI.imp (pi_list hl) fun σ H R ⟨σD, S, F, QD, ED, sl, m, h, k, kx⟩ => by
  refine ⟨σD, S, F, _, ED, sl, m, h, fun v H1 d S1 F1 r1 m1 f1 h1 => ?_, kx⟩
  cases d <;> first | exact h1.elim | skip
  rename_i a
  dsimp only at h1
  split at h1
  · rename_i xs e1
    cases r1
    obtain ⟨vs, h2, h3⟩ := m1.obj _ _ e1
    exact ⟨a, rfl, ⟨vs, SqL.of h2⟩, k _ H1 _ _ _ S1 F1 srv_lst True.intro m1 f1 h1⟩
  · exact h1.elim
theorem dpi_new (hl : PLd X W e ws) : PId X W tg e (iNw ws) := PI.imp (pi_list hl) fun σ H R ⟨σD, S, F, QD, ED, sl, m, h, k, kx⟩ => by
  refine ⟨σD, S, F, _, ED, sl, m, h, fun p vs H1 ds S1 F1 q1 q2 q3 n r1 m1 f1 h1 => ?_, kx⟩
  exact ⟨p, rfl, ⟨vs, SqL.of q1⟩, k _ H1 _ _ _ S1 F1 srv_new ⟨vs, q1, q2, q3, r1⟩ m1 f1 h1⟩
theorem dpi_r1 {p : Pos} (hg : Gl X "range") (hm : X.mg "range" = none) (ha : PAd X W [e] ws) (hs : starEach [e] X.env = [(false, eval e X.env)] := by rfl) : PId X W tg (.Call (.Name "range" p) [e] [] pos) (iR1 ws) := PI.imp (pi_range1 hg hm ha hs) fun σ H R ⟨σD, S, F, QD, ED, sl, m, h, k, kx⟩ => by
  refine ⟨σD, S, F, _, ED, sl, m, h, fun vs H1 ds S1 F1 r1 m1 f1 h1 => ?_, kx⟩
  dsimp only at h1
  split at h1
  · rename_i j
    obtain ⟨v, vr, rfl, rv, rfl⟩ := r1
    cases rv
    exact ⟨j, rfl, h1.1.1, h1.1.2, k _ H1 _ _ _ S1 F1 srv_rng True.intro m1 f1 h1.2⟩
  · exact h1.elim
theorem dpi_r2 {p : Pos} {e2 : Expr} (hg : Gl X "range") (hm : X.mg "range" = none) (ha : PAd X W [e, e2] ws) (hs : starEach [e, e2] X.env = [(false, eval e X.env), (false, eval e2 X.env)] := by rfl) (hs2 : starEach [e2] X.env = [(false, eval e2 X.env)] := by rfl) : PId X W tg (.Call (.Name "range" p) [e, e2] [] pos) (iR2 ws) := PI.imp (pi_range2 hg hm ha hs hs2) fun σ H R ⟨σD, S, F, QD, ED, sl, m, h, k, kx⟩ => by
  refine ⟨σD, S, F, _, ED, sl, m, h, fun vs H1 ds S1 F1 r1 m1 f1 h1 => ?_, kx⟩
  dsimp only at h1
  split at h1
  · rename_i i j
    obtain ⟨v, vr, rfl, rv, v2, vr2, rfl, rv2, rfl⟩ := r1
    cases rv; cases rv2
    exact ⟨i, j, rfl, h1.1, k _ H1 _ _ _ S1 F1 srv_rng True.intro m1 f1 h1.2⟩
  · exact h1.elim

/-! ### for -/
def forW (St : Store → Prop) (g : DG) (b : DS) : List D → DS
  | [] => fun D σ S => St S ∧ D.nx σ S
  | d :: ds => fun D σ S => St S ∧ g d σ S (fun σ1 S1 => b { D with nx := forW St g b ds D, ct := forW St g b ds D, bk := D.nx } σ1 S1)
def wFor (wi : DI) (g : DG) (b : DS) : DS := fun D σ S => wi σ S (fun ds St S' => forW St g b ds D σ S') (fun e S' => D.ex e σ S')
theorem dps_for {wi : DI} (hp : PassesOwn (model X.prog X.w) X.A X.env X.xe) (hc : X.calm = true) (hi : PId X W tg e wi) (hg : PGd X vs tg g) (hb : PSsd X W body t)
    (hs : ∀ x, foldedSetIterable e X.env x = pure x := by intro _; rfl) : PSd X W (.For tg e body [] pos) (wFor wi g t) := PS.imp (ps_for hp hc hi hg hb hs) fun D σ H ⟨σD, S, F, DD, sl, m, h, k⟩ => by
  refine ⟨σD, S, F, _, _, sl, m, h, fun J H1 ds St B S1 F1 sv hB m1 f1 h1 => ?_, k.ex.ex m sl⟩
  refine ⟨fun i n σ' H' => n = ds.length - i ∧ i ≤ ds.length ∧ ∃ σD' S' F', SlR X.K H' σD' σ' ∧ Mod X.K H' S' F' ∧ B H' S' F' ∧ Fm S F H S' F' H' ∧ forW St g t (ds.drop i) DD σD' S',
    ⟨_, rfl, Nat.zero_le _, σD, S1, F1, sl.kp (f1.kp m), m1, hB, f1, h1⟩, ?_⟩
  rintro i n σ2 H2 ⟨rfl, hi, σD2, S2, F2, sl2, m2, hB2, f2, h2⟩
  by_cases hlt : i < ds.length
  · rw [List.drop_eq_getElem_cons hlt] at h2
    obtain ⟨hSt, h2⟩ := h2
    refine .inr ⟨sv.go i S2 F2 H2 hlt hB2 m2 hSt, fun σ' H' => ∃ σD' S' F', SlR X.K H' σD' σ' ∧ Mod X.K H' S' F' ∧ B H' S' F' ∧ Fm S F H S' F' H' ∧ forW St g t (ds.drop (i + 1)) DD σD' S',
      fun σ' H' q => ⟨ds.length - (i + 1), by omega, rfl, hlt, q⟩, fun x H3 y => ?_⟩
    obtain ⟨d, e1, r3, m3, f3⟩ := sv.yld i S2 F2 H2 x H3 hB2 m2 hSt y hlt
    rw [List.getElem?_eq_getElem hlt] at e1; cases e1
    have hB3 := sv.bk _ _ _ _ _ _ m2 f3 hB2
    refine ⟨_, σD2, S2, F2, _, r3, sl2.kp (f3.kp m2), m3, h2, fun σ4 H4 σD4 S4 F4 _ _ sl4 m4 f4 h4 => ?_⟩
    have ff := (f2.trans f3).trans f4
    have hB4 := sv.bk _ _ _ _ _ _ m3 f4 hB3
    have nxt : PostS X.K S4 F4 H4 (forW St g t (ds.drop (i + 1)) DD) (fun σ' H' => ∃ σD' S' F', SlR X.K H' σD' σ' ∧ Mod X.K H' S' F' ∧ B H' S' F' ∧ Fm S F H S' F' H' ∧ forW St g t (ds.drop (i + 1)) DD σD' S') :=
      fun σ5 H5 σD5 S5 F5 sl5 m5 f5 q5 => ⟨σD5, S5, F5, sl5, m5, sv.bk _ _ _ _ _ _ m4 f5 hB4, ff.trans f5, q5⟩
    exact ⟨σD4, S4, F4, _, sl4, m4, h4, ⟨nxt, k.rt.after ff, k.nx.after ff, nxt, k.ex.after ff⟩⟩
  · have e0 : i = ds.length := by omega
    subst e0
    rw [List.drop_length] at h2
    exact .inl ⟨sv.stop S2 F2 H2 hB2 m2 h2.1, k.nx σ2 H2 σD2 S2 F2 sl2 m2 f2 h2.2⟩

/-! ### comprehensions -/
def wipeD (σ : DSt) : List Nat → DSt
  | [] => σ
  | v :: vs => (wipeD σ vs).set v none
theorem wipeD_length (σ : DSt) : ∀ vs : List Nat, (wipeD σ vs).length = σ.length
  | [] => rfl
  | v :: vs => by unfold wipeD; rw [List.length_set, wipeD_length σ vs]
theorem wipeD_some {σ : DSt} {i : Nat} {x : D} : ∀ {vs : List Nat}, (wipeD σ vs)[i]? = some (some x) → σ[i]? = some (some x) ∧ i ∉ vs
  | [], h => ⟨h, by simp⟩
  | v :: vs, h => by
    unfold wipeD at h
    by_cases hi : v = i
    · subst hi
      by_cases hv : v < (wipeD σ vs).length
      · rw [List.getElem?_set_self hv] at h; cases h
      · rw [List.getElem?_eq_none (by simpa using hv)] at h; cases h
    · rw [List.getElem?_set_ne hi] at h
      obtain ⟨h1, h2⟩ := wipeD_some h
      exact ⟨h1, by simp only [List.mem_cons, not_or]; exact ⟨fun e => hi e.symm, h2⟩⟩
theorem wipe_get {σ : L2.St} {i : Nat} : ∀ {vs : List Nat}, i ∉ vs → (wipe σ vs)[i]? = σ[i]?
  | [], _ => rfl
  | v :: vs, h => by
    unfold wipe
    rw [List.getElem?_set_ne (fun e => by subst e; exact h List.mem_cons_self), wipe_get (fun z => h (List.mem_cons_of_mem _ z))]
theorem wipe_in {σ : L2.St} {i : Nat} : ∀ {vs : List Nat}, i ∈ vs → (wipe σ vs)[i]? = if i < σ.length then some none else none
  | [], h => by cases h
  | v :: vs, h => by
    unfold wipe
    by_cases e : v = i
    · subst e
      by_cases hl : v < σ.length
      · rw [List.getElem?_set_self (by rw [wipe_length]; exact hl), if_pos hl]
      · rw [List.getElem?_eq_none (by rw [List.length_set, wipe_length]; omega), if_neg hl]
    · rw [List.getElem?_set_ne e]
      exact wipe_in ((List.mem_cons.mp h).resolve_left (fun z => e z.symm))
theorem wipe_eq {σ σ' : L2.St} {vs : List Nat} (h : ∀ j, j ∉ vs → σ'[j]? = σ[j]?) (hl : σ'.length = σ.length) : wipe σ' vs = wipe σ vs := by
  apply List.ext_getElem?
  intro j
  by_cases hj : j ∈ vs
  · rw [wipe_in hj, wipe_in hj, hl]
  · rw [wipe_get hj, wipe_get hj, h j hj]
theorem SlR.wipe {K : PySem.W.Frag} {H : Hp} {σD : DSt} {σ : L2.St} (sl : SlR K H σD σ) (vs : List Nat) : SlR K H (wipeD σD vs) (L2.wipe σ vs) := ⟨by rw [wipeD_length, wipe_length]; exact sl.len, fun i d e => by
  obtain ⟨h1, h2⟩ := wipeD_some e
  obtain ⟨v, h3, h4⟩ := sl.at_ i d h1
  exact ⟨v, by rw [wipe_get h2]; exact h3, h4⟩⟩
theorem wipe_wipe (σ : L2.St) (vs : List Nat) : L2.wipe (L2.wipe σ vs) vs = L2.wipe σ vs := wipe_eq (fun j hj => wipe_get hj) (wipe_length _ _)
def lcW (St : Store → Prop) (g : DG) (t : DT) (e : DE) (σ : DSt) : List D → List D → Store → (List D → Store → Prop) → Prop
  | [], acc, S, Q => St S ∧ Q acc S
  | d :: ds, acc, S, Q => St S ∧ g d σ S (fun σ1 S1 => t σ1 S1 (fun b S2 => if b = true then e σ1 S2 (fun y S3 => acc.length < sizeLine ∧ lcW St g t e σ ds (acc ++ [y]) S3 Q) XF else lcW St g t e σ ds acc S2 Q) XF)
def wLc (wi : DI) (g : DG) (t : DT) (e : DE) (vs : List Nat) : DA := fun σ S Q E => wi σ S (fun ds St S' => lcW St g t e (wipeD σ vs) ds [] S' Q) E
abbrev WF : WX := fun _ _ _ _ => False
abbrev PTsd (X : Cx) (W : WX) (e : List Expr) (w : DT) : Prop := PTs X e (upT X.K X.mg W w)
def wYes : DT := fun _ S Q _ => Q true S
theorem PTs.imp {es : List Expr} {t t' : TT} (h : PTs X es t) (k : ∀ σ H Q, t' σ H Q → t σ H Q) : PTs X es t' := ⟨fun pins s σ H Q I q => h.run pins s σ H Q I (k σ H Q q)⟩
theorem dpts_nil : PTsd X W [] wYes := PTs.imp pts_nil fun σ H Q ⟨σD, S, F, QD, ED, sl, m, h, k, kx⟩ => k true H S F m (Fm.refl S F H) h
theorem dpts_one (h : PTd X W c wt) : PTsd X W [c] wt := pts_one h
theorem lc_imp {wi : DI} {K : PySem.W.Frag} {mg : Str → Option Value} {σ : L2.St} {H : Hp} {Q : VK} (h : upL K mg W (wLc wi g wt w vs) σ H Q) : tLc (upI K mg W wi) (upG K vs g) (upT K mg WF wt) (up K mg WF w) vs σ H Q := by
  obtain ⟨σD, S, F, QD, ED, sl, m, h, k, kx⟩ := h
  refine ⟨σD, S, F, _, ED, sl, m, h, fun J H1 ds St B S1 F1 sv hB m1 f1 h1 D hD => ?_, kx⟩
  obtain ⟨sD, fD⟩ := m1.fresh hD
  have nwD1 : Nw S1 F1 H1 D := .inr (.inr hD)
  have nwD : Nw S F H D := Nw.back f1 nwD1
  let P : Nat → Hp → Prop := fun i H' => ∃ S' F' acc vacc, Mod K H' S' F' ∧ H' D = some (.lst vacc) ∧ S' D = none ∧ F' D = none ∧ Reps K H' acc vacc ∧ Fm S1 F1 H1 S' F' H' ∧ lcW St g wt w (wipeD σD vs) (ds.drop i) acc S' QD
  refine ⟨fun i n H' => n = ds.length - i ∧ i ≤ ds.length ∧ P i H', ⟨_, rfl, Nat.zero_le _, S1, F1, [], [], m1.laid hD, upd_same, sD, fD, rfl, Fm.laid hD, h1⟩, ?_⟩
  rintro i n H2 ⟨rfl, hi, S2, F2, acc, vacc, m2, hD2, sD2, fD2, ra, f2, h2⟩
  have hB2 := sv.bk _ _ _ _ _ _ m1 f2 hB
  by_cases hlt : i < ds.length
  · rw [List.drop_eq_getElem_cons hlt] at h2
    obtain ⟨hSt, h2⟩ := h2
    refine .inr ⟨sv.go i S2 F2 H2 hlt hB2 m2 hSt, P (i + 1), fun H' q => ⟨ds.length - (i + 1), by omega, rfl, hlt, q⟩, fun x H3 y => ?_⟩
    obtain ⟨d, e1, r3, m3, f3⟩ := sv.yld i S2 F2 H2 x H3 hB2 m2 hSt y hlt
    rw [List.getElem?_eq_getElem hlt] at e1; cases e1
    have ff3 := (f1.trans f2).trans f3
    refine ⟨_, wipeD σD vs, S2, F2, _, r3, (sl.wipe vs).kp (ff3.kp m), m3, h2, fun σ4 H4 σD4 S4 F4 o4 l4 sl4 m4 f4 h4 => ?_⟩
    refine ⟨by rw [wipe_eq o4 l4, wipe_wipe], σD4, S4, F4, _, _, sl4, m4, h4, fun b H5 S5 F5 m5 f5 h5 => ?_, fun _ _ _ _ _ _ _ _ _ z => z.elim⟩
    have f35 := (f3.trans f4).trans f5
    obtain ⟨z1, z2, z3⟩ := f35.cl hD2 sD2 fD2
    cases b with
    | false => exact ⟨S5, F5, acc, vacc, m5, z1, z2, z3, Reps.kp (f35.kp m2) _ _ ra, f2.trans f35, h5⟩
    | true =>
      refine ⟨σD4, S5, F5, _, _, sl4.kp (f5.kp m4), m5, h5, fun yv H6 yd S6 F6 r6 m6 f6 h6 => ?_, fun _ _ _ _ _ _ _ _ _ z => z.elim⟩
      have f36 := f35.trans f6
      obtain ⟨y1, y2, y3⟩ := f36.cl hD2 sD2 fD2
      have ra6 := Reps.kp (f36.kp m2) _ _ ra
      have kD : Kp H6 (upd H6 D (.lst (vacc ++ [yv]))) := kp_mut (NoT.lst y1)
      have m7 : Mod K (upd H6 D (.lst (vacc ++ [yv]))) S6 F6 := by
        refine ⟨fun b v q => (m6.obj b v q).other kD (fun z => by rw [z, y2] at q; cases q) (by rw [y3]; simp), fun l b q => ?_⟩
        obtain ⟨a1, a2⟩ := m6.hid l b q
        have nl : l ≠ D := fun z => by rw [z, y3] at q; cases q
        exact ⟨a1, a2.upd nl⟩
      exact ⟨vacc, y1, by rw [← ra6.length]; exact h6.1, S6, F6, acc ++ [yd], vacc ++ [yv], m7, upd_same, y2, y3, Reps.kp kD _ _ (ra6.append (Reps.one r6)), (f2.trans f36).over nwD1, h6.2⟩
  · have e0 : i = ds.length := by omega
    subst e0
    rw [List.drop_length] at h2
    exact .inl ⟨sv.stop S2 F2 H2 hB2 m2 h2.1, k D vacc H2 acc S2 F2 hD2 sD2 fD2 nwD ra m2 (f1.trans f2) h2.2⟩
theorem dpl_lc {elt it : Expr} {ifs : List Expr} {scope : Scope} {own : List (Str × Nat)} {wi : DI} (hc : X.calm = true) (hN : X.N.Nodup) (hi : PId X W tg it wi) (ok : BlkOk X.N X.env.scope scope own)
    (hg : ∀ (s : Shared) (H : Hp) (C : Addr) (cl : List (Str × Addr)) (fp : List Addr), PGd (X.blk s H scope (compEnvC scope cl C X.env) fp) (own.map (·.2)) tg g) (ht : ∀ (s : Shared) (H : Hp) (C : Addr) (cl : List (Str × Addr)) (fp : List Addr), PTsd (X.blk s H scope (compEnvC scope cl C X.env) fp) WF ifs wt)
    (he : ∀ (s : Shared) (H : Hp) (C : Addr) (cl : List (Str × Addr)) (fp : List Addr), PEd (X.blk s H scope (compEnvC scope cl C X.env) fp) WF elt w) (hs : ∀ x, foldedSetIterable it X.env x = pure x := by intro _; rfl) :
    PLd X W (.ListComp elt [⟨tg, it, ifs, 0⟩] scope pos) (wLc wi g wt w (own.map (·.2))) :=
  PE.imp (pe_lc hc hN hi ok hg ht he hs) fun _ _ _ h => lc_imp h
/-- name = [..], on one line: the store is within the comprehension's frame -/
theorem dps_setLc {i : Nat} {y : Str} {py : Pos} {elt it : Expr} {ifs : List Expr} {scope : Scope} {own : List (Str × Nat)} {spos : Pos} {wi : DI} (hc : X.calm = true) (hN : X.N.Nodup) (hy : X.N[i]? = some y) (hyl : X.env.scope.names.lookup y = some .local)
    (hsw : swapsWith (.ListComp elt [⟨tg, it, ifs, 0⟩] scope pos) (some (.Name y py)) spos.line X.env = pure true) (hi : PId X W tg it wi) (ok : BlkOk X.N X.env.scope scope own)
    (hg : ∀ (s : Shared) (H : Hp) (C : Addr) (cl : List (Str × Addr)) (fp : List Addr), PGd (X.blk s H scope (compEnvC scope cl C X.env) fp) (own.map (·.2)) tg g) (ht : ∀ (s : Shared) (H : Hp) (C : Addr) (cl : List (Str × Addr)) (fp : List Addr), PTsd (X.blk s H scope (compEnvC scope cl C X.env) fp) WF ifs wt)
    (he : ∀ (s : Shared) (H : Hp) (C : Addr) (cl : List (Str × Addr)) (fp : List Addr), PEd (X.blk s H scope (compEnvC scope cl C X.env) fp) WF elt w) (hs : ∀ x, foldedSetIterable it X.env x = pure x := by intro _; rfl) :
    PSd X W (.Assign [.Name y py] (.ListComp elt [⟨tg, it, ifs, 0⟩] scope pos) spos) (wAsg (wNew (wLc wi g wt w (own.map (·.2)))) (gNm i)) :=
  PS.imp (ps_setLc hc hN hy hyl hsw hi ok hg ht he hs) fun D σ H ⟨σD, S, F, DD, sl, m, h, k⟩ => by
    refine lc_imp (Q := fun x H1 => gName i x σ H1 D.nx) ⟨σD, S, F, _, _, sl, m, h, fun p vs H1 ds S1 F1 h1 h2 h3 n r1 m1 f1 q => ?_, k.ex.ex m sl⟩
    exact k.nx _ H1 _ (sup S1 p (.lst ds)) F1 ((sl.kp (f1.kp m)).set i (d := .ref p) rfl) (m1.adopt h2 h3 ⟨vs, h1, r1⟩) (f1.adopt n) (q p h2)
end
end DL
/-! ## DL6 -/
namespace DL
open PySem PySem.Spec PyProof.Rows L2
theorem SqF.sq {K : PySem.W.Frag} {H : Hp} {p : Addr} {xs : List V} (h : SqF K H p xs) : SqL K H p xs := by
  rcases h with ⟨o, h⟩ | h | h
  · exact .inl (.inr ⟨o, h⟩)
  · rcases h with h | ⟨o, h⟩ <;> cases h
  · exact .inr h
theorem SqL.split {K : PySem.W.Frag} {H : Hp} {p : Addr} {xs : List V} (h : SqL K H p xs) : H p = some (.lst xs) ∨ SqF K H p xs := by
  rcases h with (h | ⟨o, h⟩) | h
  · exact .inl h
  · exact .inr (.inl ⟨o, h⟩)
  · exact .inr (.inr (.inr h))

/-! ### built-ins by values -/
def dAny (ds : List D) (S : Store) (Q : DK) : Prop := ∃ bs : List Bool, ds = bs.map D.bl ∧ Q (.bl (bs.any id)) S
def dAll (ds : List D) (S : Store) (Q : DK) : Prop := ∃ bs : List Bool, ds = bs.map D.bl ∧ Q (.bl (bs.all id)) S
def dSum (ds : List D) (S : Store) (Q : DK) : Prop := ∃ ns : List Int, ds = ns.map D.int ∧ Q (.int ns.sum) S
def dMaxL (ds : List D) (S : Store) (Q : DK) : Prop := ∃ ns : List Int, ds = ns.map D.int ∧ 0 < ns.length ∧ ∀ m, m ∈ ns → (∀ y, y ∈ ns → y ≤ m) → Q (.int m) S
def dMinL (ds : List D) (S : Store) (Q : DK) : Prop := ∃ ns : List Int, ds = ns.map D.int ∧ 0 < ns.length ∧ ∀ m, m ∈ ns → (∀ y, y ∈ ns → m ≤ y) → Q (.int m) S
def dTupOf (ds : List D) (S : Store) (Q : DK) : Prop := Q (.tup ds) S
def dLenL (ds : List D) (S : Store) (Q : DK) : Prop := Q (.int (ds.length : Nat)) S
def dListOf (ds : List D) (S : Store) (Q : List D → Store → Prop) : Prop := Q ds S
section
variable {K : PySem.W.Frag}
theorem lc_any : LCV K (rAny K) dAny := by
  intro p vs H ds S F QD Q q r m ⟨bs, e, h⟩ k
  subst e
  have e := r.bls
  subst e
  exact ⟨p, bs, rfl, q, k (.bl _) H (.bl _) S F rfl m (Fm.refl S F H) h⟩
theorem lc_all : LCV K (rAll K) dAll := by
  intro p vs H ds S F QD Q q r m ⟨bs, e, h⟩ k
  subst e
  have e := r.bls
  subst e
  exact ⟨p, bs, rfl, q, k (.bl _) H (.bl _) S F rfl m (Fm.refl S F H) h⟩
theorem lc_sum : LCV K (rSum K) dSum := by
  intro p vs H ds S F QD Q q r m ⟨bs, e, h⟩ k
  subst e
  have e := r.ints
  subst e
  exact ⟨p, bs, rfl, q, k (.int _) H (.int _) S F rfl m (Fm.refl S F H) h⟩
theorem lc_max : LCV K (rMax K) dMaxL := by
  intro p vs H ds S F QD Q q r m ⟨bs, e, h1, h2⟩ k
  subst e
  have e := r.ints
  subst e
  exact ⟨p, bs, rfl, q, h1, fun y a b => k (.int _) H (.int _) S F rfl m (Fm.refl S F H) (h2 y a b)⟩
theorem lc_min : LCV K (rMin K) dMinL := by
  intro p vs H ds S F QD Q q r m ⟨bs, e, h1, h2⟩ k
  subst e
  have e := r.ints
  subst e
  exact ⟨p, bs, rfl, q, h1, fun y a b => k (.int _) H (.int _) S F rfl m (Fm.refl S F H) (h2 y a b)⟩
theorem lc_tup : LCV K (fun xs H Q => ∃ p ys, xs = [.ref p] ∧ ((SqL K H p ys ∧ ∀ l, H l = none → Q (.ref l) (upd H l (.tup ys))) ∨ (SqT K H p ys ∧ Q (.ref p) H))) dTupOf := by
  intro p vs H ds S F QD Q q r m h k
  exact ⟨p, vs, rfl, .inl ⟨q, fun l hl => k (.ref l) _ (.tup ds) S F ⟨l, vs, rfl, .inl (.inl upd_same), Reps.kp (kp_new hl) _ _ r⟩ (m.laid hl) (Fm.laid hl) h⟩⟩
theorem lc_lenL : LCV K (fun xs H Q => ∃ p ys, xs = [.ref p] ∧ (SqL K H p ys ∨ SqT K H p ys) ∧ Q (.int ys.length) H) dLenL := by
  intro p vs H ds S F QD Q q r m h k
  exact ⟨p, vs, rfl, .inl q, k (.int _) H (.int _) S F (by rw [← r.length]; rfl) m (Fm.refl S F H) h⟩
theorem lc_listL : LCL K (fun xs H Q => ∃ p ys, xs = [.ref p] ∧ (SqL K H p ys ∨ SqT K H p ys) ∧ ∀ l, H l = none → Q (.ref l) (upd H l (.lst ys))) dListOf := by
  intro p vs H ds S F QD Q q r m h k
  refine ⟨p, vs, rfl, .inl q, fun l hl => ?_⟩
  obtain ⟨hs, hf⟩ := m.fresh hl
  exact k l vs _ ds S F upd_same hs hf (.inr (.inr hl)) (Reps.kp (kp_new hl) _ _ r) (m.laid hl) (Fm.laid hl) h
def dLen (ds : List D) (S : Store) (Q : DK) : Prop := match ds with
  | [.tup xs] => Q (.int (xs.length : Nat)) S
  | [.str z] => z.length ≤ sizeLine ∧ Q (.int (z.length : Nat)) S
  | [.rl xs] => Q (.int (xs.length : Nat)) S
  | [.kl xs] => Q (.int (xs.length : Nat)) S
  | [.ref a] => (match S a with | some (.lst xs) => Q (.int (xs.length : Nat)) S | _ => False)
  | _ => False
theorem lc_len : LCA K (fun xs H Q => ∃ x n, xs = [x] ∧ LenV K x H n ∧ Q (.int n) H) dLen := by
  intro vs H ds S F QD Q r m h k
  unfold dLen at h
  split at h
  · obtain ⟨v, vr, rfl, ⟨p, ws, rfl, t, r1⟩, rfl⟩ := r
    exact ⟨.ref p, _, rfl, .inr ⟨ws, t, rfl⟩, k (.int _) H (.int _) S F (by rw [← r1.length]; rfl) m (Fm.refl S F H) h⟩
  · obtain ⟨v, vr, rfl, r1, rfl⟩ := r
    cases r1
    exact ⟨.str _, _, rfl, ⟨h.1, rfl⟩, k (.int _) H (.int _) S F rfl m (Fm.refl S F H) h.2⟩
  · obtain ⟨v, vr, rfl, ⟨p, ws, rfl, t, r1⟩, rfl⟩ := r
    exact ⟨.ref p, _, rfl, .inl ⟨ws, SqF.sq (SqZ.sf t), rfl⟩, k (.int _) H (.int _) S F (by rw [← r1.length]; rfl) m (Fm.refl S F H) h⟩
  · obtain ⟨v, vr, rfl, ⟨p, ws, rfl, t, r1⟩, rfl⟩ := r
    exact ⟨.ref p, _, rfl, .inl ⟨ws, SqF.sq t, rfl⟩, k (.int _) H (.int _) S F (by rw [← r1.length]; rfl) m (Fm.refl S F H) h⟩
  · obtain ⟨v, vr, rfl, r1, rfl⟩ := r
    cases r1
    split at h
    · rename_i xs e
      obtain ⟨ws, h1, h2⟩ := m.obj _ _ e
      exact ⟨.ref _, _, rfl, .inl ⟨ws, SqL.of h1, rfl⟩, k (.int _) H (.int _) S F (by rw [← h2.length]; rfl) m (Fm.refl S F H) h⟩
    · exact h.elim
  · exact h.elim
def dMax2 (ds : List D) (S : Store) (Q : DK) : Prop := match ds with | [.int i, .int j] => Q (.int (if j > i then j else i)) S | _ => False
def dMin2 (ds : List D) (S : Store) (Q : DK) : Prop := match ds with | [.int i, .int j] => Q (.int (if j < i then j else i)) S | _ => False
theorem lc_max2 : LCA K (fun xs H Q => ∃ i j, xs = [.int i, .int j] ∧ Q (.int (if j > i then j else i)) H) dMax2 := by
  intro vs H ds S F QD Q r m h k
  unfold dMax2 at h
  split at h
  · rename_i i j
    obtain ⟨v, vr, rfl, r1, v2, vr2, rfl, r2, rfl⟩ := r
    cases r1; cases r2
    exact ⟨i, j, rfl, k (.int _) H (.int _) S F rfl m (Fm.refl S F H) h⟩
  · exact h.elim
theorem lc_min2 : LCA K (fun xs H Q => ∃ i j, xs = [.int i, .int j] ∧ Q (.int (if j < i then j else i)) H) dMin2 := by
  intro vs H ds S F QD Q r m h k
  unfold dMin2 at h
  split at h
  · rename_i i j
    obtain ⟨v, vr, rfl, r1, v2, vr2, rfl, r2, rfl⟩ := r
    cases r1; cases r2
    exact ⟨i, j, rfl, k (.int _) H (.int _) S F rfl m (Fm.refl S F H) h⟩
  · exact h.elim
def dIntOf (ds : List D) (S : Store) (Q : DK) : Prop := match ds with | [.int i] => Q (.int i) S | [.bl b] => Q (.int (if b then 1 else 0)) S | _ => False
theorem lc_int : LCA K (fun xs H Q => (∃ i, xs = [.int i] ∧ Q (.int i) H) ∨ ∃ k, xs = [.bl k] ∧ Q (.int (if k then 1 else 0)) H) dIntOf := by
  intro vs H ds S F QD Q r m h k
  unfold dIntOf at h
  split at h
  · rename_i i
    obtain ⟨v, vr, rfl, r1, rfl⟩ := r
    cases r1
    exact .inl ⟨i, rfl, k (.int _) H (.int _) S F rfl m (Fm.refl S F H) h⟩
  · rename_i i
    obtain ⟨v, vr, rfl, r1, rfl⟩ := r
    cases r1
    exact .inr ⟨i, rfl, k (.int _) H (.int _) S F rfl m (Fm.refl S F H) h⟩
  · exact h.elim
def dStrOf (ds : List D) (S : Store) (Q : DK) : Prop := match ds with | [.int i] => i.natAbs.log2 < 1920 ∧ Q (.str (toString i)) S | _ => False
theorem lc_str : LCA K (fun xs H Q => ∃ i, xs = [.int i] ∧ i.natAbs.log2 < 1920 ∧ Q (.str (toString i)) H) dStrOf := by
  intro vs H ds S F QD Q r m h k
  unfold dStrOf at h
  split at h
  · rename_i i
    obtain ⟨v, vr, rfl, r1, rfl⟩ := r
    cases r1
    exact ⟨i, rfl, h.1, k (.str _) H (.str _) S F rfl m (Fm.refl S F H) h.2⟩
  · exact h.elim
/-- tuple(t), t a tuple -/
def dListT (ds : List D) (S : Store) (Q : List D → Store → Prop) : Prop := match ds with
  | [.tup xs] => Q xs S
  | [.rl xs] => Q xs S
  | [.kl xs] => Q xs S
  | [.ref a] => (match S a with | some (.lst xs) => Q xs S | _ => False)
  | _ => False
end
def wALL (a : DA) (r : List D → Store → (List D → Store → Prop) → Prop) : DA := fun σ S Q E => a σ S (fun xs S1 => r xs S1 Q) E

/-! ### isinstance -/
def kindD (S : Store) : D → Option String
  | .non => some "NoneType" | .bl _ => some "bool" | .int _ => some "int" | .str _ => some "str" | .tup _ => some "tuple"
  | .ref a => match S a with | some (.lst _) => some "list" | some .box => some "list" | some (.dic _) => some "dict" | some (.dit _) => some "dict" | _ => none
  | .rl _ => some "list"
  | _ => none
def isaB (a b : String) : Bool := a == b || (a == "bool" && b == "int")
def wIsa (w : DE) (T : String) : DE := fun σ S Q E => w σ S (fun d S1 => match kindD S1 d with | some k => Q (.bl (isaB k T)) S1 | none => False) E
theorem kind_ty {K : PySem.W.Frag} {H : Hp} {S : Store} {F : Own} (m : Mod K H S F) : ∀ {d : D} {v : V} {k : String}, Rep K H d v → kindD S d = some k → TyX K H v (.type k)
  | .non, _, _, r, e => by cases r; cases e; exact .base .non
  | .bl _, _, _, r, e => by cases r; cases e; exact .base (.bl _)
  | .int _, _, _, r, e => by cases r; cases e; exact .base (.int _)
  | .str _, _, _, r, e => by cases r; cases e; exact .base (.str _)
  | .tup _, _, _, ⟨p, vs, rfl, t, _⟩, e => by
    cases e
    rcases t with (t | ⟨o, t⟩) | ⟨o, its, n, t, c, _⟩
    · exact .base (.tup t)
    · exact .fTuple t
    · exact .kTuple t c
  | .ref a, _, _, r, e => by
    cases r
    unfold kindD at e
    dsimp only at e
    split at e
    · rename_i xs q
      cases e
      obtain ⟨vs, h, _⟩ := m.obj _ _ q
      exact .base (.lst h)
    · rename_i q
      cases e
      obtain ⟨l, z, ns, h, _⟩ := m.obj _ _ q
      exact .base (.lst h)
    · rename_i xs q
      cases e
      obtain ⟨vs, h, _⟩ := m.obj _ _ q
      exact .base (.dK h)
    · rename_i xs q
      cases e
      obtain ⟨vs, h, _⟩ := m.obj _ _ q
      exact .base (.dT h)
    · cases e
  | .fn _ _, _, _, _, e => nomatch e
  | .fnS _ _ _, _, _, _, e => nomatch e
  | .rl _, _, _, ⟨p, vs, rfl, t, _⟩, e => by
    cases e
    obtain ⟨o, t⟩ := t
    exact .base (.frz t)
  | .kl _, _, _, _, e => nomatch e
theorem kitB_all : ∀ a ∈ (["NoneType", "bool", "int", "str", "tuple", "list", "dict"] : List String), ∀ b ∈ (["bool", "int", "str", "tuple", "list", "dict"] : List String), kitB a b = some (isaB a b) := by decide +kernel
theorem kind_mem {S : Store} {d : D} {k : String} (e : kindD S d = some k) : k ∈ (["NoneType", "bool", "int", "str", "tuple", "list", "dict"] : List String) := by
  cases d with
  | ref a =>
    unfold kindD at e
    dsimp only at e
    split at e <;> first | (cases e; decide) | cases e
  | _ => first | (cases e; decide) | cases e
section
variable {X : Cx} {W : WX} {e : Expr} {es : List Expr} {w : DE} {ws : DA} {pos p : Pos} {x : Str}
theorem dpe_isa {T : String} {t : Str} {p2 : Pos} (hT : T ∈ (["bool", "int", "str", "tuple", "list", "dict"] : List String)) (hg : Gl X "isinstance") (hm : X.mg "isinstance" = none) (hv : bootBuiltins "isinstance" = some (.builtin "isinstance")) (hgT : Gl X t) (hmT : X.mg t = none) (hvT : bootBuiltins t = some (.type T)) (ha : PEd X W e w)
    (hn : t ≠ "__name__" := by decide) (hd : (t == ("__debug__" : Str)) = false := by decide)
    (he : starEach [e, .Name t p2] X.env = (false, eval e X.env) :: starEach [.Name t p2] X.env := by rfl) (hpl : (backTo pos (starEach [.Name t p2] X.env)).any (·.1) = false := by rfl) (he2 : starEach [.Name t p2] X.env = (false, eval (.Name t p2) X.env) :: starEach [] X.env := by rfl) :
    PEd X W (.Call (.Name "isinstance" p) [e, .Name t p2] [] pos) (wIsa w T) :=
  PE.imp (pe_callB call_isi hg hm hv (pa_cons ha (pa_cons (pe_bltn (v := .ty T) hgT hmT hvT rfl hn hd) pa_nil he2) he) (by decide) (by decide) he hpl) fun σ H Q ⟨σD, S, F, QD, ED, sl, m, h, k, kx⟩ => by
    refine ⟨σD, S, F, _, ED, sl, m, h, fun v H1 d S1 F1 r1 m1 f1 h1 => ?_, kx⟩
    dsimp only at h1
    split at h1
    · rename_i kd e1
      exact ⟨v, .ty T, .type kd, .type T, _, rfl, .ty T, kind_ty m1 r1 e1, kit_ty (kitB_all kd (kind_mem e1) T hT), k (.bl _) H1 (.bl _) S1 F1 rfl m1 f1 h1⟩
    · exact h1.elim
theorem all_imp {r : List V → Hp → VK → Prop} {rL : List D → Store → (List D → Store → Prop) → Prop} (hl : ∀ vs H ds S F QD Q, Reps X.K H ds vs → Mod X.K H S F → rL ds S QD → PostL X.K S F H QD Q → r vs H Q) {σ : L2.St} {H : Hp} {Q : VK} (h : upL X.K X.mg W (wALL ws rL) σ H Q) : tCB r (upA X.K X.mg W ws) σ H Q := by
  obtain ⟨σD, S, F, QD, ED, sl, m, h, k, kx⟩ := h
  exact ⟨σD, S, F, _, ED, sl, m, h, fun vs H1 ds S1 F1 r1 m1 f1 h1 => hl vs H1 ds S1 F1 QD Q r1 m1 h1 (k.after f1), kx⟩
/-- list(x): of a tuple, of a list of the store -/
theorem dpl_list (hg : Gl X "list") (hm : X.mg "list" = none) (hv : bootBuiltins "list" = some (.type "list")) (ha : PAd X W [e] ws)
    (he : starEach [e] X.env = (false, eval e X.env) :: starEach [] X.env := by rfl) : PLd X W (.Call (.Name "list" p) [e] [] pos) (wALL ws dListT) :=
  PE.imp (pe_callTy call_list_of hg hm hv ha (by decide) (by decide) he rfl) fun _ _ _ h => all_imp (fun vs H ds S F QD Q r m h k => by
    unfold dListT at h
    split at h
    · obtain ⟨v, vr, rfl, ⟨p, ws, rfl, t, r1⟩, rfl⟩ := r
      refine ⟨p, ws, rfl, .inr t, fun l hl => ?_⟩
      obtain ⟨hs, hf⟩ := m.fresh hl
      exact k l ws _ _ S F upd_same hs hf (.inr (.inr hl)) (Reps.kp (kp_new hl) _ _ r1) (m.laid hl) (Fm.laid hl) h
    · obtain ⟨v, vr, rfl, ⟨p, ws, rfl, t, r1⟩, rfl⟩ := r
      refine ⟨p, ws, rfl, .inl (SqF.sq (SqZ.sf t)), fun l hl => ?_⟩
      obtain ⟨hs, hf⟩ := m.fresh hl
      exact k l ws _ _ S F upd_same hs hf (.inr (.inr hl)) (Reps.kp (kp_new hl) _ _ r1) (m.laid hl) (Fm.laid hl) h
    · obtain ⟨v, vr, rfl, ⟨p, ws, rfl, t, r1⟩, rfl⟩ := r
      refine ⟨p, ws, rfl, .inl (SqF.sq t), fun l hl => ?_⟩
      obtain ⟨hs, hf⟩ := m.fresh hl
      exact k l ws _ _ S F upd_same hs hf (.inr (.inr hl)) (Reps.kp (kp_new hl) _ _ r1) (m.laid hl) (Fm.laid hl) h
    · obtain ⟨v, vr, rfl, r1, rfl⟩ := r
      cases r1
      split at h
      · rename_i xs e
        obtain ⟨ws, h1, h2⟩ := m.obj _ _ e
        refine ⟨_, ws, rfl, .inl (SqL.of h1), fun l hl => ?_⟩
        obtain ⟨hs, hf⟩ := m.fresh hl
        exact k l ws _ _ S F upd_same hs hf (.inr (.inr hl)) (Reps.kp (kp_new hl) _ _ h2) (m.laid hl) (Fm.laid hl) h
      · exact h.elim
    · exact h.elim) h

/-! ### defs -/
abbrev SpD := List D → Store → DK → XE → Prop
def upSp (K : PySem.W.Frag) (mg : Str → Option Value) (sp : SpD) : Sp := fun vs H Q E => ∃ ds S F QD ED, Reps K H ds vs ∧ Mod K H S F ∧ sp ds S QD ED ∧ Post K S F H QD Q ∧ PostX K mg S F H ED E
abbrev FnD (P : Program) (w : World) (K : PySem.W.Frag) (mg : Str → Option Value) (base : Heap) (k : Nat) (f : Addr) (fd : FuncData) (ps : List Str) (sp : SpD) : Prop := FnOk P w K mg base (L2.CX P w) k f fd ps (upSp K mg sp)
def wCall (a : DA) (sp : SpD) : DE := fun σ S Q E => a σ S (fun ds S1 => sp ds S1 Q E) E
theorem dpe_call {k : Nat} {f : Addr} {fd : FuncData} {ps : List Str} {sp : SpD} (G : FnD X.prog X.w X.K X.mg X.base k f fd ps sp) (hr : Room k X.A) (hg : Gl X x) (hm : X.mg x = some (.ref f)) (hk : PySem.W.keepIn X.K (.ref f) = true) (hb : Binds X.K fd ps []) (tk : Takes X W) (ha : PAd X W (e :: es) ws)
    (hdb : (x == ("__debug__" : Str)) = false := by decide) (he : starEach (e :: es) X.env = (false, eval e X.env) :: starEach es X.env := by rfl) (hpl : (backTo pos (starEach es X.env)).any (·.1) = false := by rfl) :
    PEd X W (.Call (.Name x p) (e :: es) [] pos) (wCall ws sp) :=
  PE.imp (pe_callS G hr hg hm hk hb (fun σ => passAt tk σ) ha hdb he hpl) fun σ H Q ⟨σD, S, F, QD, ED, sl, m, h, k, kx⟩ =>
    ⟨σD, S, F, _, ED, sl, m, h, fun vs H1 ds S1 F1 r1 m1 f1 h1 => ⟨ds, S1, F1, QD, ED, r1, m1, h1, k.after f1, kx.after f1⟩, kx⟩
def startD (N : List Str) (ds : List D) : DSt := ds.map some ++ List.replicate (N.length - ds.length) none
theorem SlR.start {K : PySem.W.Frag} {H : Hp} {N : List Str} {ds : List D} {vs : List V} (r : Reps K H ds vs) : SlR K H (startD N ds) (L2.start N vs) := by
  refine ⟨by unfold startD L2.start; rw [r.length.symm.symm]; simp [r.length], fun i d e => ?_⟩
  unfold startD at e
  by_cases hi : i < ds.length
  · rw [List.getElem?_append_left (by simpa using hi), List.getElem?_map] at e
    cases e2 : ds[i]? with
    | none => rw [e2] at e; cases e
    | some d' =>
      rw [e2] at e; cases e
      obtain ⟨v, h1, h2⟩ := r.get e2
      refine ⟨v, ?_, h2⟩
      unfold L2.start
      rw [List.getElem?_append_left (by simpa [← r.length] using hi), List.getElem?_map, h1]
      rfl
  · rw [List.getElem?_append_right (by simpa using hi), List.getElem?_replicate] at e
    split at e <;> cases e
theorem Fun.okD {P : Program} {w : World} {K : PySem.W.Frag} {mg : Str → Option Value} {base : Heap} {x qual : Str} {st : Stmt} {f : Addr} {fd : FuncData} {N ps : List Str} {k : Nat} {sp : SpD} (G : Fun K x qual st f fd) (Sc : FnScope N ps (defScope st)) (len : ∀ ds S Q E, sp ds S Q E → ds.length = ps.length)
    (hbody : ∀ (cdv : Value) (A : Around) (outer : List Env) (s : Shared) (H : Hp) (E : XK), Room k (A.deeper (envOfC qual (defScope st) s.heap.objs.size f cdv)) →
      ∃ t, PSsd (cxOf (L2.CX P w) P w K mg base N qual (defScope st) f cdv A outer s H E) (fun cls d _ H => E cls d H) (defBody st) t ∧
        ∀ ds S Q ED, sp ds S Q ED → t { nx := fun _ S' => Q .non S', rt := Q, ex := fun e _ S' => ED e S' } (startD N ds) S) : FnD P w K mg base (k + 1) f fd ps sp := by
  refine G.okX Sc (fun vs H Q E ⟨ds, S, F, QD, ED, r, m, h, _⟩ => by rw [← r.length]; exact len ds S QD ED h) fun cdv A outer s H vs Q E hr ⟨ds, S, F, QD, ED, r, m, h, k, kx⟩ => ?_
  obtain ⟨t, ht, hw⟩ := hbody cdv A outer s H E hr
  refine ⟨_, ht, startD N ds, S, F, _, SlR.start r, m, hw ds S QD ED h, ⟨fun σ' H' σD' S' F' _ m' f q => k .non H' .non S' F' rfl m' f q, k, fun _ _ _ _ _ _ _ _ z => z.elim, fun _ _ _ _ _ _ _ _ z => z.elim, fun cls dd σ' H' e σD' S' F' r' _ m' f q => kx cls dd H' e S' F' r' m' f q⟩⟩
/-- raise C('..'), C an own class without __init__ -/
def wRaise (c : Str) : DS := fun D σ S => D.ex ⟨c, none⟩ σ S
theorem dps_raise {C : Addr} {bmB : List Value} {B newId initId : String} {c m : Str} {j : Nat} {p2 p3 : Pos} (hc : X.calm = true) (tk : Takes X W) (G : ExcBaseFacts B newId initId bmB) (q : PySem.W.excIn X.K C bmB newId = true) (gC : X.mg c = some (.ref C)) (kC : PySem.W.keepIn X.K (.ref C) = true) (r : Raises X (.ref C)) (hg : Gl X c)
    (hdb : (c == ("__debug__" : Str)) = false := by decide) : PSd X W (.Raise (some (.Call (.Name c p) [.Constant (.str m) j p2] [] p3)) none pos) (wRaise c) :=
  PS.imp (ps_raise hc tk (pmk_own G q gC kC r hg hdb)) fun D σ H ⟨σD, S, F, DD, sl, m, h, k⟩ => k.ex _ _ σ H ⟨c, none⟩ σD S F ⟨gC, rfl⟩ sl m (Fm.refl S F H) h
end
/-- a def that is called by its name -/
structure Cal (P : Program) (w : World) (K : PySem.W.Frag) (mg : Str → Option Value) (base : Heap) (x : Str) (k : Nat) (ps : List Str) (sp : SpD) : Prop where
  ex : ∃ f fd, FnD P w K mg base k f fd ps sp ∧ mg x = some (.ref f) ∧ PySem.W.keepIn K (.ref f) = true ∧ Binds K fd ps []
structure Def (K : PySem.W.Frag) (mg : Str → Option Value) (x : Str) (st : Stmt) (ps : List Str) : Prop where
  ex : ∃ f fd, Fun K x x st f fd ∧ mg x = some (.ref f) ∧ Binds K fd ps []
structure Cst (K : PySem.W.Frag) (mg : Str → Option Value) (x : Str) (d : D) : Prop where
  ex : ∃ u v, mg x = some u ∧ RelV v u ∧ ∀ H, Rep K H d v
structure Exn (K : PySem.W.Frag) (mg : Str → Option Value) (x : Str) : Prop where
  ex : ∃ C, mg x = some (.ref C) ∧ PySem.W.excIn K C [.type "ValueError", .type "Exception", .type "BaseException", .type "object"] "ValueError.__new__" = true ∧ PySem.W.keepIn K (.ref C) = true ∧ PySem.W.subIn K (.ref C) (.type "BaseException") = some true ∧ PySem.W.typeIn K (.ref C) = some (.type "type")
theorem Def.cal {P : Program} {w : World} {K : PySem.W.Frag} {mg : Str → Option Value} {base : Heap} {x : Str} {st : Stmt} {N ps : List Str} {k : Nat} {sp : SpD} (G : Def K mg x st ps) (Sc : FnScope N ps (defScope st)) (len : ∀ ds S Q E, sp ds S Q E → ds.length = ps.length)
    (hbody : ∀ (f : Addr) (cdv : Value) (A : Around) (outer : List Env) (s : Shared) (H : Hp) (E : XK), Room k (A.deeper (envOfC x (defScope st) s.heap.objs.size f cdv)) →
      ∃ t, PSsd (cxOf (L2.CX P w) P w K mg base N x (defScope st) f cdv A outer s H E) (fun cls d _ H => E cls d H) (defBody st) t ∧
        ∀ ds S Q ED, sp ds S Q ED → t { nx := fun _ S' => Q .non S', rt := Q, ex := fun e _ S' => ED e S' } (startD N ds) S) : Cal P w K mg base x (k + 1) ps sp := by
  obtain ⟨f, fd, h1, h2, h3⟩ := G.ex
  exact ⟨f, fd, Fun.okD h1 Sc len (hbody f), h2, h1.kp, h3⟩
section
variable {X : Cx} {W : WX} {e : Expr} {es : List Expr} {w : DE} {ws : DA} {pos p : Pos} {x : Str}
theorem dpe_cal {k j : Nat} {ps : List Str} {sp : SpD} (G : Cal X.prog X.w X.K X.mg X.base x k ps sp) (hr : Room j X.A) (hkj : k ≤ j) (hg : Gl X x) (tk : Takes X W) (ha : PAd X W (e :: es) ws)
    (hdb : (x == ("__debug__" : Str)) = false := by decide) (he : starEach (e :: es) X.env = (false, eval e X.env) :: starEach es X.env := by rfl) (hpl : (backTo pos (starEach es X.env)).any (·.1) = false := by rfl) :
    PEd X W (.Call (.Name x p) (e :: es) [] pos) (wCall ws sp) := by
  obtain ⟨f, fd, h1, h2, h3, h4⟩ := G.ex
  exact dpe_call h1 (hr.mono hkj) hg h2 h3 h4 tk ha hdb he hpl
theorem dpe_cst {d : D} (c : Cst X.K X.mg x d) (hg : Gl X x) (hd : (x == ("__debug__" : Str)) = false := by decide) : PEd X W (.Name x pos) (wC d) := by
  obtain ⟨u, v, h1, h2, h3⟩ := c.ex
  exact dpe_glob hg h1 h2 h3 hd
theorem dps_rz {c m : Str} {j : Nat} {p2 p3 : Pos} (C : Exn X.K X.mg c) (hc : X.calm = true) (tk : Takes X W) (hg : Gl X c) (hdb : (c == ("__debug__" : Str)) = false := by decide) : PSd X W (.Raise (some (.Call (.Name c p) [.Constant (.str m) j p2] [] p3)) none pos) (wRaise c) := by
  obtain ⟨C, h1, h2, h3, h4, h5⟩ := C.ex
  exact dps_raise hc tk PySem.F.excBase_ValueError h2 h1 h3 (raises_own h4 h5) hg hdb
end
theorem bb_isinstance : bootBuiltins "isinstance" = some (.builtin "isinstance") := by decide +kernel
theorem bb_len : bootBuiltins "len" = some (.builtin "len") := by decide +kernel
theorem bb_any : bootBuiltins "any" = some (.builtin "any") := by decide +kernel
theorem bb_all : bootBuiltins "all" = some (.builtin "all") := by decide +kernel
theorem bb_sum : bootBuiltins "sum" = some (.builtin "sum") := by decide +kernel
theorem bb_max : bootBuiltins "max" = some (.builtin "max") := by decide +kernel
theorem bb_min : bootBuiltins "min" = some (.builtin "min") := by decide +kernel
theorem bb_sorted : bootBuiltins "sorted" = some (.builtin "sorted") := by decide +kernel
theorem bb_int : bootBuiltins "int" = some (.type "int") := by decide +kernel
theorem bb_bool : bootBuiltins "bool" = some (.type "bool") := by decide +kernel
theorem bb_str : bootBuiltins "str" = some (.type "str") := by decide +kernel
theorem bb_tuple : bootBuiltins "tuple" = some (.type "tuple") := by decide +kernel
theorem bb_list : bootBuiltins "list" = some (.type "list") := by decide +kernel
theorem bb_dict : bootBuiltins "dict" = some (.type "dict") := by decide +kernel
end DL
/-! ## DL7z -/
/-! zip of two tuples walked by ONE name: the pair is held while the next one is drawn, so the zip object may remember any earlier
pair. One lemma serves both ends of a turn. The road is the library's own for a tuple target, widened to the remembered pair. -/
namespace DZ
open PySem
open PySem.Sem (wp)

/-- everything but the cells of N is as before -/
def Stay (N : List Addr) (h h' : Heap) : Prop := ∀ c o, (∀ n ∈ N, c ≠ n) → h.get? c = some o → h'.get? c = some o
namespace Stay
variable {N M : List Addr} {h h1 h2 : Heap} {c : Addr}
theorem chg (x : Heap.SameBut c h h1) : Stay [c] h h1 := fun b o nb e => x.extBut b o (nb c (by simp)) e
theorem ext (x : Heap.ExtBut c h h1) : Stay [c] h h1 := fun b o nb e => x b o (nb c (by simp)) e
theorem alloc (o : Obj) : Stay [] h (h.push o) := fun b o' _ e => Heap.get?_push_of_some _ e
theorem thn (x : Stay N h h1) (y : Stay M h1 h2) : Stay (N ++ M) h h2 := fun b o nb e =>
  y b o (fun n m => nb n (List.mem_append_right _ m)) (x b o (fun n m => nb n (List.mem_append_left _ m)) e)
theorem wide (x : Stay N h h1) (le : ∀ n ∈ N, n ∈ M) : Stay M h h1 := fun b o nb e => x b o (fun n m => nb n (le n m)) e
theorem iter {l k} (x : Stay N h h1) (f : h.IsTupleIter c l k) (nb : ∀ n ∈ N, c ≠ n) : h1.IsTupleIter c l k := f.at fun o e => x c o nb e
theorem tupl {xs} (x : Stay N h h1) (f : h.IsTuple c xs) (nb : ∀ n ∈ N, c ≠ n) : h1.IsTuple c xs := let ⟨o, e, r⟩ := f; ⟨o, x c o nb e, r⟩
end Stay

/-- the zip object: what it remembers, whether that pair is out, and its two cells -/
def zo (TI TO : Addr) (mem : Value) (out : Bool) : Obj := { cls := .type "zip", dict := none, data := .fields #[mem, .bool out, .bool false, .ref TI, .ref TO], slots := #[] }
/-- what a zip object may remember: nothing, or the address of a pair -/
inductive Mem : Value → Prop
  | no : Mem .none
  | at (T : Addr) : Mem (rawInt T)

/-- a zip in the middle of its walk: both tuples have given i items -/
structure Mid (h : Heap) (z TI TO i1 i2 a b : Addr) (i : Nat) : Prop where
  self : ∃ m out, Mem m ∧ h.get? z = some (zo TI TO m out)
  its : IsPair h TI (.ref i1) (.ref i2)
  buf : ∃ x y, IsPair h TO x y
  one : h.IsTupleIter i1 a i
  two : h.IsTupleIter i2 b i

theorem apt {z TI TO i1 i2 a b : Addr} (D : ZipApart z TI TO i1 i2 a b) : TI ≠ z ∧ TO ≠ z ∧ i1 ≠ z ∧ i2 ≠ z ∧ TI ≠ TO ∧ TI ≠ i1 ∧ TI ≠ i2 ∧ TO ≠ i1 ∧ TO ≠ i2 ∧ i1 ≠ i2 ∧ a ≠ z ∧ a ≠ TO ∧ a ≠ i1 ∧ a ≠ i2 ∧ b ≠ z ∧ b ≠ TO ∧ b ≠ i1 ∧ b ≠ i2 ∧ z ≠ TO ∧ z ≠ i1 ∧ z ≠ i2 ∧ i1 ≠ TO ∧ i2 ≠ TO ∧ i2 ≠ i1 :=
  ⟨D.TIz, D.TOz, D.i1z, D.i2z, D.TITO, D.TIi1, D.TIi2, D.TOi1, D.TOi2, D.i12, D.l1z, D.l1TO, D.l1i1, D.l1i2, D.l2z, D.l2TO, D.l2i1, D.l2i2, D.TOz.symm, D.i1z.symm, D.i2z.symm, D.TOi1.symm, D.TOi2.symm, D.i12.symm⟩
section
variable {prog : Program} {w : World} {A : Around} {E : Value → Shared → Prop} {s : Shared} {β : Type}

/-- read a field of the zip, then go on -/
theorem rd {z TI TO : Addr} {m : Value} {out : Bool} {j : Nat} {x : Value} {f : Value → Sem β} {Q : β → Shared → Prop} (e : s.heap.get? z = some (zo TI TO m out))
    (ej : (#[m, .bool out, .bool false, .ref TI, .ref TO] : Array Value)[j]? = some x) (k : wpAny (model prog w) A (f x) Q E s) : wpAny (model prog w) A (field (.ref z) j >>= f) Q E s :=
  wpAny_bind (wpAny_field e rfl ej k)
/-- write what the zip remembers, then go on -/
theorem wr0 {z TI TO : Addr} {m x : Value} {out : Bool} {Q : Unit → Shared → Prop} (e : s.heap.get? z = some (zo TI TO m out))
    (k : ∀ h1, h1.get? z = some (zo TI TO x out) → Heap.SameBut z s.heap h1 → Q () { s with heap := h1 }) : wpAny (model prog w) A (setField (.ref z) 0 x) Q E s :=
  wpAny_setField_rec e (by simp) k
theorem wr1 {z TI TO : Addr} {m : Value} {out x : Bool} {Q : Unit → Shared → Prop} (e : s.heap.get? z = some (zo TI TO m out))
    (k : ∀ h1, h1.get? z = some (zo TI TO m x) → Heap.SameBut z s.heap h1 → Q () { s with heap := h1 }) : wpAny (model prog w) A (setField (.ref z) 1 (.bool x)) Q E s :=
  wpAny_setField_rec e (by simp) k
/-- one item of a tuple, or its end -/
theorem draw {p t : Addr} {i : Nat} {xs : Array Value} {f : Value → Sem β} {Q : β → Shared → Prop} (hh : A.handled = none) (ip : s.heap.IsTupleIter p t i) (it : s.heap.IsTuple t xs)
    (some_ : ∀ x h1, xs[i]? = some x → h1.IsTupleIter p t (i + 1) → Heap.SameBut p s.heap h1 → wpAny (model prog w) A (f x) Q E { s with heap := h1 })
    (none_ : ∀ e h1, xs[i]? = none → Stay [p] s.heap h1 → (∃ o, h1.get? e = some o ∧ o.cls = .type "StopIteration") → E (.ref e) { s with heap := h1 }) :
    wpAny (model prog w) A (Builtin.SmallTypes.nextOf (.ref p) >>= f) Q E s := by
  rcases g : xs[i]? with _ | x
  · exact wpAny_bind (RZ.nextOf_tuple_end hh ip it g fun h1 e st o => none_ e h1 g (.ext st) o)
  · exact wpAny_bind (RZ.nextOf_tuple_item ip it g fun h1 n st => some_ x h1 g n st)
/-- the remembered pair is free, or it is still out -/
theorem isFree {z TI TO : Addr} {m : Value} {out : Bool} {f : Bool → Sem β} {Q : β → Shared → Prop} (hm : Mem m) (e : s.heap.get? z = some (zo TI TO m out))
    (yes : wpAny (model prog w) A (f true) Q E s)
    (not : ∀ (h1 : Heap) (T : Addr), h1.get? z = some (zo TI TO (rawInt T) true) → Stay [z] s.heap h1 → h1.objs.size = s.heap.objs.size → wpAny (model prog w) A (f false) Q E { s with heap := h1 }) :
    wpAny (model prog w) A (Builtin.SmallTypes.ownedTupleIsFree (.ref z) >>= f) Q E s := by
  refine wpAny_bind ?_
  unfold Builtin.SmallTypes.ownedTupleIsFree
  refine rd e rfl ?_
  cases hm with
  | no => exact wpAny_pure yes
  | «at» T =>
    have alive : ∀ {R : Option Obj → Shared → Prop}, R (s.heap.get? T) s → wpAny (model prog w) A (loadIfAlive ((T : Int).toNat)) R E s := fun r G p _ => by
      rw [Int.toNat_natCast, show (loadIfAlive T : Sem (Option Obj)) = Sem.loadIfAlive T pure from rfl, Sem.wp_loadIfAlive]; exact r
    refine wpAny_bind (alive ?_)
    rcases s.heap.get? T with _ | oT
    · exact wpAny_pure yes
    · refine rd e rfl ?_
      rcases out with _ | _
      · exact wpAny_bind (wr1 e fun h1 e1 c1 => wpAny_pure (not h1 T e1 (.chg c1) c1.1))
      · exact wpAny_pure (not s.heap T e (fun _ _ _ q => q) rfl)

theorem step {z TI TO i1 i2 a b : Addr} {i : Nat} {xs ys : Array Value} {Q : Value → Shared → Prop} (hh : A.handled = none) (D : ZipApart z TI TO i1 i2 a b) (Z : Mid s.heap z TI TO i1 i2 a b i)
    (ta : s.heap.IsTuple a xs) (tb : s.heap.IsTuple b ys)
    (go : ∀ x y h1, xs[i]? = some x → ys[i]? = some y → Mid h1 z TI TO i1 i2 a b (i + 1) → IsPair h1 s.heap.objs.size x y → h1.objs.size = s.heap.objs.size + 1 → Stay [z, TO, i1, i2] s.heap h1 →
      Q (.ref s.heap.objs.size) { s with heap := h1 })
    (stop : ∀ e h1, (xs[i]? = none ∨ ys[i]? = none) → Stay [z, TO, i1, i2] s.heap h1 → (∃ o, h1.get? e = some o ∧ o.cls = .type "StopIteration") → E (.ref e) { s with heap := h1 }) :
    wpAny (model prog w) A (Builtin.«zip.__next__» ⟨[.ref z], []⟩) (fun fin s' => ∃ v, fin = .done (.ret v) ∧ Q v s') E s := by
  obtain ⟨⟨m, out, hm, ez⟩, eI, ⟨u0, v0, eO⟩, p1, p2⟩ := Z
  refine rd ez (j := 2) rfl (rd ez (j := 3) rfl (wpAny_bind (wpAny_seqItems eI rfl (isFree hm ez ?_ ?_))))
  · simp only [if_true]
    refine wpAny_bind (wpAny_rule (rd ez rfl (wpAny_bind (wr0 ez fun g1 z1 c1 => wpAny_bind ?_))))
    have k1 := Stay.chg c1
    simp only [List.zipIdx_cons, List.zipIdx_nil, List.forIn_cons, List.forIn_nil]
    refine wpAny_bind (wpAny_bind (wpAny_onRaise (draw hh (k1.iter p1 (by simp [apt D])) (k1.tupl ta (by simp [apt D])) (fun x g2 gx q1 c2 => wpAny_pure ?_) fun e g2 gx c2 o => ?_)))
    · have k2 := k1.thn (.chg c2)
      have O2 : IsPair g2 TO u0 v0 := k2 _ _ (by simp [apt D]) eO
      refine wpAny_bind (wpAny_seqItems O2 rfl (wpAny_bind (wpAny_updateSeq_pair O2 fun g3 O3 c3 => wpAny_bind (wpAny_letGo (wpAny_pure ?_)))))
      have k3 := k2.thn (.chg c3)
      refine wpAny_bind (wpAny_bind (wpAny_onRaise (draw hh (k3.iter p2 (by simp [apt D])) (k3.tupl tb (by simp [apt D])) (fun y g4 gy q2 c4 => wpAny_pure ?_) fun e g4 gy c4 o => ?_)))
      · have k4 := k3.thn (.chg c4)
        have O4 : IsPair g4 TO x v0 := Stay.chg c4 _ _ (by simp [apt D]) O3
        refine wpAny_bind (wpAny_seqItems O4 rfl (wpAny_bind (wpAny_updateSeq_pair O4 fun g5 O5 c5 => wpAny_bind (wpAny_letGo (wpAny_pure (wpAny_pure ?_))))))
        have k5 := k4.thn (.chg c5)
        have O6 : IsPair g5 TO x y := O5
        refine wpAny_bind (wpAny_seqItems O6 rfl (wpAny_bind (wpAny_newTuple (wpAny_bind ?_))))
        have size5 : g5.objs.size = s.heap.objs.size := by rw [c5.1, c4.1, c3.1, c2.1, c1.1]
        have z5 : g5.get? z = some (zo TI TO .ellipsis out) := ((Stay.chg c2).thn ((Stay.chg c3).thn ((Stay.chg c4).thn (.chg c5)))) _ _ (by simp [apt D]) z1
        unfold Builtin.SmallTypes.ownedTupleHandOut
        refine wpAny_bind (wr0 (Heap.get?_push_of_some _ z5) fun g7 z7 c7 => wr1 z7 fun g8 z8 c8 => wpAny_pure ⟨_, rfl, ?_⟩)
        have last : Stay [z] g5 g8 := ((Stay.alloc _).thn ((Stay.chg c7).thn (.chg c8))).wide (by simp)
        have P8 : IsPair g8 g5.objs.size x y := ((Stay.chg c7).thn (.chg c8)) _ _ (by simpa using Nat.ne_of_gt (Heap.lt_size z5)) (Heap.get?_push_size _ rfl)
        have size8 : g8.objs.size = g5.objs.size + 1 := by rw [c8.1, c7.1, Heap.size_push]
        show Q (.ref g5.objs.size) _
        rw [size5] at P8 size8 z8 ⊢
        exact go x y g8 gx gy ⟨⟨_, _, .at _, z8⟩, (k5.thn last) _ _ (by simp [apt D]) eI, ⟨_, _, last _ _ (by simp [apt D]) O5⟩, ((Stay.chg c3).thn ((Stay.chg c4).thn ((Stay.chg c5).thn last))).iter q1 (by simp [apt D]),
          ((Stay.chg c5).thn last).iter q2 (by simp [apt D])⟩ P8 size8 ((k5.thn last).wide (by simp))
      · obtain ⟨oe, he, ce⟩ := o
        have z4 : g4.get? z = some (zo TI TO .ellipsis out) := ((Stay.chg c2).thn ((Stay.chg c3).thn c4)) _ _ (by simp [apt D]) z1
        refine wr0 z4 fun g5 _ c5 => stop e g5 (.inr gy) (((k3.thn c4).thn (.chg c5)).wide (by simp)) ⟨oe, Stay.chg c5 _ _ ?_ he, ce⟩
        intro n hn q
        rw [q, List.mem_singleton.mp hn, z4] at he
        cases he; exact absurd ce (by simp [zo])
    · obtain ⟨oe, he, ce⟩ := o
      have z2 : g2.get? z = some (zo TI TO .ellipsis out) := c2 _ _ (by simp [apt D]) z1
      refine wr0 z2 fun g3 _ c3 => stop e g3 (.inl gx) (((k1.thn c2).thn (.chg c3)).wide (by simp)) ⟨oe, Stay.chg c3 _ _ ?_ he, ce⟩
      intro n hn q
      rw [q, List.mem_singleton.mp hn, z2] at he
      cases he; exact absurd ce (by simp [zo])
  · intro g1 T z1 k1 size1
    simp only [Bool.false_eq_true, if_false]
    refine wpAny_bind ?_
    rw [← Array.forIn_toList]
    simp only [List.forIn_cons, List.forIn_nil]
    refine wpAny_bind (wpAny_bind (wpAny_holding (draw (s := { s with heap := g1 }) hh (k1.iter p1 (by simp [apt D])) (k1.tupl ta (by simp [apt D])) (fun x g2 gx q1 c2 => wpAny_pure (wpAny_pure ?_))
      fun e g2 gx c2 o => stop e g2 (.inl gx) ((k1.thn c2).wide (by simp)) o)))
    have k2 := k1.thn (.chg c2)
    refine wpAny_bind (wpAny_bind (wpAny_holding (draw (s := { s with heap := g2 }) hh (k2.iter p2 (by simp [apt D])) (k2.tupl tb (by simp [apt D])) (fun y g3 gy q2 c3 => wpAny_pure (wpAny_pure (wpAny_pure ?_)))
      fun e g3 gy c3 o => stop e g3 (.inr gy) ((k2.thn c3).wide (by simp)) o)))
    have size3 : g3.objs.size = s.heap.objs.size := by rw [c3.1, c2.1]; exact size1
    refine wpAny_bind (wpAny_newTuple (items := [x, y]) (wpAny_pure ⟨_, rfl, ?_⟩))
    have last : Stay [] g3 (g3.push { cls := .type "tuple", data := .seq #[x, y] }) := Stay.alloc _
    have k4 := (k2.thn (.chg c3)).thn last
    have z4 := ((Stay.chg c2).thn ((Stay.chg c3).thn last)) _ _ (by simp [apt D]) z1
    have P4 : IsPair (g3.push { cls := .type "tuple", data := .seq #[x, y] }) g3.objs.size x y := Heap.get?_push_size _ rfl
    have size4 : (g3.push { cls := .type "tuple", data := .seq #[x, y] }).objs.size = g3.objs.size + 1 := Heap.size_push ..
    show Q (.ref g3.objs.size) _
    rw [size3] at P4 size4 ⊢
    exact go x y _ gx gy ⟨⟨_, _, .at T, z4⟩, k4 _ _ (by simp [apt D]) eI, ⟨_, _, k4 _ _ (by simp [apt D]) eO⟩, ((Stay.chg c3).thn last).iter q1 (by simp [apt D]), last.iter q2 (by simp)⟩ P4 size4 (k4.wide (by simp))

/-- a turn of the loop: the next pair, or the end -/
theorem turn {z TI TO i1 i2 a b : Addr} {i : Nat} {xs ys : Array Value} {Q : Option Value → Shared → Prop} (hh : A.handled = none) (D : ZipApart z TI TO i1 i2 a b) (Z : Mid s.heap z TI TO i1 i2 a b i)
    (ta : s.heap.IsTuple a xs) (tb : s.heap.IsTuple b ys)
    (go : ∀ x y h1, xs[i]? = some x → ys[i]? = some y → Mid h1 z TI TO i1 i2 a b (i + 1) → IsPair h1 s.heap.objs.size x y → h1.objs.size = s.heap.objs.size + 1 → Stay [z, TO, i1, i2] s.heap h1 →
      Q (some (.ref s.heap.objs.size)) { s with heap := h1 })
    (stop : ∀ h1, (xs[i]? = none ∨ ys[i]? = none) → Stay [z, TO, i1, i2] s.heap h1 → Q none { s with heap := h1 }) : wpAny (model prog w) A (pyNext (.ref z)) Q E s := by
  have isz : s.TypeIs (.ref z) "zip" := let ⟨_, _, _, e⟩ := Z.self; ⟨_, e, rfl⟩
  unfold pyNext
  refine wpAny_bind (wpAny_attempt (wpAny_callSpecial?_slot (name := Str.ofString "__next__") isz F.slot_zip_next (wpAny_call_entry F.slot_zip_next isz F.entry_zip_next
    (step hh D Z ta tb (fun x y h1 gx gy Z1 P1 e1 k1 => wpAny_pure (go x y h1 gx gy Z1 P1 e1 k1)) fun e h1 gn k1 o => ?_) (F.args_zip_next_1 _))))
  exact wpAny_bind (wpAny_isInstance (T := "StopIteration") (b := true) o isSubtype_stop (wpAny_pure (stop h1 gn k1)))
end
end DZ
/-! ## DL7 -/
namespace DL
open PySem PySem.Spec PyProof.Rows L2 RZ DZ
/-- a zip in the middle has its five cells -/
theorem mid_cells {h : Heap} {z TI TO i1 i2 a b : Addr} {i : Nat} (Z : Mid h z TI TO i1 i2 a b i) : ∀ c ∈ [z, TI, TO, i1, i2], ∃ o, h.get? c = some o ∧ ∀ v, o.data ≠ .cell v := by
  obtain ⟨⟨m, out, _, ez⟩, eI, ⟨x, y, eO⟩, ⟨o1, e1, _, d1⟩, ⟨o2, e2, _, d2⟩⟩ := Z
  simp only [List.forall_mem_cons]
  exact ⟨⟨_, ez, nofun⟩, ⟨_, eI, nofun⟩, ⟨_, eO, nofun⟩, ⟨o1, e1, fun v => d1 ▸ nofun⟩, ⟨o2, e2, fun v => d2 ▸ nofun⟩, nofun⟩
/-- the four cells that a turn changes are among the five -/
theorem four_of {h h1 : Heap} {z TI TO i1 i2 : Addr} (k : Stay [z, TO, i1, i2] h h1) : ∀ c o, c ∉ [z, TI, TO, i1, i2] → h.get? c = some o → h1.get? c = some o :=
  fun c o nc e => k c o (fun n hn q => nc (q ▸ by simp only [List.mem_cons, List.not_mem_nil, or_false] at hn ⊢; rcases hn with e | e | e | e <;> simp [e])) e
theorem turn_zipN {P : Program} {w : World} {K : PySem.W.Frag} {nm : Str} {tpos : Pos} {a b z TI TO i1 i2 : Addr} (D : ZipApart z TI TO i1 i2 a b) :
    Turn P w K (.Name nm tpos) (ItzT K a b) [z, TI, TO, i1, i2] z (fun i h => Mid h z TI TO i1 i2 a b i) where
  mem := List.mem_cons_self
  obj := fun _ _ Z => mid_cells Z
  keep := fun i h h1 ⟨⟨m, out, hm, ez⟩, eI, ⟨x, y, eO⟩, p1, p2⟩ k => ⟨⟨m, out, hm, k _ (by simp) _ ez⟩, k _ (by simp) _ eI, ⟨x, y, k _ (by simp) _ eO⟩, p1.at (k _ (by simp)), p2.at (k _ (by simp))⟩
  item := fun X eP ew eK calm i pins s σ H E I free Z ⟨xs, ys, x, y, sx, sy, gx, gy⟩ => by
    cases eP; cases ew; cases eK
    obtain ⟨us, ru, pu, _⟩ := I.tuple sx
    obtain ⟨vs, rv, pv, _⟩ := I.tuple sy
    obtain ⟨u, hu, xu⟩ := ru.get gx
    obtain ⟨v, hv, yv⟩ := rv.get gy
    refine turn (I.ok.hd calm) D Z pu pv (fun u' v' h1 gu gv Z1 P1 sz k1 => ?_) fun h1 gn _ => ?_
    · obtain rfl : u' = u := Option.some.inj (gu.symm.trans (by simpa using hu))
      obtain rfl : v' = v := Option.some.inj (gv.symm.trans (by simpa using hv))
      have pair : ObjOk X.prog X.w (upd H s.heap.objs.size (.tup [x, y])) h1 s.heap.objs.size (.tup [x, y]) := ⟨by show 2 ≤ sizeLine; decide, [u', v'], .cons xu (.cons yv .nil), ⟨_, P1, rfl, _, rfl⟩⟩
      refine ⟨_, rfl, wpAny_pure ⟨.ref s.heap.objs.size, _, I.turnedNew (t' := s.toks) (four_of k1) free (Nat.le_refl _) pair, rfl,
        ⟨_, x, y, rfl, I.hok.fresh (Nat.le_refl _), rfl, fun l e => by rw [I.tuple_inj e sx]; exact gx, fun l e => by rw [I.tuple_inj e sy]; exact gy⟩, Z1, fun c hc => ?_⟩⟩
      obtain ⟨o, e, _⟩ := mid_cells Z c hc
      exact (upd_ne (Nat.ne_of_lt (Heap.lt_size e))).trans (free c hc).1
    · rcases gn with g | g
      · rw [show us.toArray[i]? = some u by simpa using hu] at g; cases g
      · rw [show vs.toArray[i]? = some v by simpa using hv] at g; cases g
  done := fun X eP ew eK calm i pins s σ H E I free Z ⟨xs, ys, sx, sy, out⟩ => by
    cases eP; cases ew; cases eK
    obtain ⟨us, ru, pu, _⟩ := I.tuple sx
    obtain ⟨vs, rv, pv, _⟩ := I.tuple sy
    have n1 := ru.length
    have n2 := rv.length
    refine turn (I.ok.hd calm) D Z pu pv (fun u v h1 gu gv _ _ _ _ => ?_) fun h1 _ k1 => ⟨rfl, I.turnedL (t' := s.toks) (four_of k1) free⟩
    have b1 : i < us.length := (List.getElem?_eq_some_iff.mp (by simpa using gu)).1
    have b2 : i < vs.length := (List.getElem?_eq_some_iff.mp (by simpa using gv)).1
    omega
  self := fun A i s Q E Z q => by
    have isz : s.TypeIs (.ref z) "zip" := let ⟨_, _, _, e⟩ := Z.self; ⟨_, e, rfl⟩
    have back : ∀ {A1 : Around} {R : Fin → Shared → Prop}, R (.done (.ret (.ref z))) s → wpAny (model P w) A1 (ret (.ref z)) R E s := wpAny_pure
    refine wpAny_pyIter_slot isz F.slot_zip_iter (wpAny_call_entry F.slot_zip_iter isz F.entry_zip_iter (?_) (F.args_zip_iter_1 _))
    refine back ?_
    exact ⟨_, rfl, ⟨_, _, isz, F.slot_zip_next.lookup, q⟩⟩
theorem two_refs {a b : Addr} {us : List Value} (r : Vals [V.ref a, V.ref b] us) : us = [Value.ref a, Value.ref b] := by
  match us, r with
  | _, .cons ra (.cons rb .nil) => cases ra; cases rb; rfl
/-- zip of two tuples, for a name -/
def iZipT (K : PySem.W.Frag) (ta : TA) : TI := fun σ H R => ta σ H fun vs H1 => ∃ a b xs ys, vs = [.ref a, .ref b] ∧ SqT K H1 a xs ∧ SqT K H1 b ys ∧ R (ItzT K a b) H1
theorem pi_zipN {X : Cx} {e e2 : Expr} {ta : TA} {p pos tpos : Pos} {nm : Str} (hg : Gl X "zip") (hm : X.mg "zip" = none) (ha : PA X [e, e2] ta)
    (hs : starEach [e, e2] X.env = (false, eval e X.env) :: starEach [e2] X.env := by rfl) (hpl : (backTo pos (starEach [e2] X.env)).any (·.1) = false := by rfl) :
    PI X (.Name nm tpos) (.Call (.Name "zip" p) [e, e2] [] pos) (iZipT X.K ta) := by
  refine ⟨fun pins s σ H R I h => ?_⟩
  refine Call_ (ld_blt I hg hm PyProof.Rows.boot_zip (PyProof.Rows.callWith_type1 (thn (ha.run pos pins s σ H _ I h) fun us s1 ⟨vs, H1, I1, r1, q1⟩ => ?_) hs hpl))
  obtain ⟨a, b, xs, ys, ex, hqx, hqy, q⟩ := q1
  subst ex
  obtain rfl := two_refs r1
  obtain ⟨us1, _, p1, _⟩ := I1.tuple hqx
  obtain ⟨us2, _, p2, _⟩ := I1.tuple hqy
  have l1 : a < s1.heap.objs.size := p1.lt
  have l2 : b < s1.heap.objs.size := p2.lt
  refine call_zipT p1 p2 fun h1 z1 tI tO q1 q2 _ k1 => wpAny_pyIter_zip z1 ⟨_, _, _, _, H1, rfl, I1.kept (t' := s1.toks) k1,
    turn_zipN (PySem.W.ktu_apart s1.heap.objs.size a b l1 l2), ⟨⟨_, _, .no, z1⟩, tI, ⟨_, _, tO⟩, q1, q2⟩, fun c hc => ?_, q⟩
  have up : s1.heap.objs.size ≤ c := by
    simp only [List.mem_cons, List.not_mem_nil, or_false] at hc
    rcases hc with e | e | e | e | e <;> rw [e] <;> first | exact Nat.le_add_right _ _ | exact Nat.le_refl _
  exact I1.fpOk up (I1.hok.fresh up)
/-! ### .. in layer D -/
def zipD (xs ys : List D) : List D := (xs.zip ys).map fun p => .tup [p.1, p.2]
def iZp (w : DA) : DI := fun σ S Q E => w σ S (fun ds S' => match ds with | [.tup xs, .tup ys] => Q (zipD xs ys) (fun _ => True) S' | _ => False) E
theorem srv_zipT {K : PySem.W.Frag} {a b : Addr} {ds es : List D} : Srv K (ItzT K a b) (zipD ds es) (fun _ => True) (fun H _ _ => ∃ vs us, SqT K H a vs ∧ Reps K H ds vs ∧ SqT K H b us ∧ Reps K H es us) where
  bk := fun S F H S' F' H' m f ⟨vs, us, h1, h2, h3, h4⟩ => ⟨vs, us, SqT.kp (f.kp m) h1, Reps.kp (f.kp m) _ _ h2, SqT.kp (f.kp m) h3, Reps.kp (f.kp m) _ _ h4⟩
  go := fun i S F H hi ⟨vs, us, h1, h2, h3, h4⟩ m _ => by
    have hl : (zipD ds es).length = min ds.length es.length := by simp [zipD]
    have l1 := h2.length
    have l2 := h4.length
    have a1 : i < vs.length := by omega
    have a2 : i < us.length := by omega
    exact ⟨vs, us, vs[i], us[i], h1, h3, by simp, by simp⟩
  stop := fun S F H ⟨vs, us, h1, h2, h3, h4⟩ m _ => by
    have hl : (zipD ds es).length = min ds.length es.length := by simp [zipD]
    have l1 := h2.length
    have l2 := h4.length
    exact ⟨vs, us, h1, h3, by omega⟩
  yld := fun i S F H x H' ⟨vs, us, h1, h2, h3, h4⟩ m _ ⟨T, x', y', e1, hT, e2, g1, g2⟩ hi => by
    subst e1 e2
    have hl : (zipD ds es).length = min ds.length es.length := by simp [zipD]
    have a1 : i < ds.length := by omega
    have a2 : i < es.length := by omega
    obtain ⟨v, q1, r1⟩ := h2.get (List.getElem?_eq_getElem a1)
    obtain ⟨u, q2, r2⟩ := h4.get (List.getElem?_eq_getElem a2)
    have z1 := g1 vs h1
    have z2 := g2 us h3
    rw [q1] at z1; cases z1
    rw [q2] at z2; cases z2
    have ez : (zipD ds es)[i]? = some (.tup [ds[i], es[i]]) := by
      unfold zipD
      rw [List.getElem?_map, List.getElem?_eq_getElem (by rw [List.length_zip]; omega), List.getElem_zip]
      rfl
    refine ⟨.tup [ds[i], es[i]], ez, ⟨T, [x', y'], rfl, .inl (.inl upd_same), ?_⟩, m.laid hT, Fm.laid hT⟩
    exact ⟨x', [y'], rfl, Rep.kp (kp_new hT) _ _ r1, y', [], rfl, Rep.kp (kp_new hT) _ _ r2, rfl⟩
section
variable {X : Cx} {W : WX} {e e2 tg : Expr} {es : List Expr} {w : DE} {ws : DA} {pos p : Pos} {g : DG} {vs : List Nat}
theorem dpi_zipN {nm : Str} {tpos : Pos} (hg : Gl X "zip") (hm : X.mg "zip" = none) (ha : PAd X W [e, e2] ws)
    (hs : starEach [e, e2] X.env = (false, eval e X.env) :: starEach [e2] X.env := by rfl) (hpl : (backTo pos (starEach [e2] X.env)).any (·.1) = false := by rfl) : PId X W (.Name nm tpos) (.Call (.Name "zip" p) [e, e2] [] pos) (iZp ws) :=
  PI.imp (pi_zipN hg hm ha hs hpl) fun σ H R ⟨σD, S, F, QD, ED, sl, m, h, k, kx⟩ => by
    refine ⟨σD, S, F, _, ED, sl, m, h, fun vs H1 ds S1 F1 r1 m1 f1 h1 => ?_, kx⟩
    dsimp only at h1
    split at h1
    · obtain ⟨v, vr, rfl, ⟨a, va, rfl, ta, ra⟩, v2, vr2, rfl, ⟨b, vb, rfl, tb, rb⟩, rfl⟩ := r1
      exact ⟨a, b, va, vb, rfl, ta, tb, k _ H1 _ _ _ S1 F1 srv_zipT ⟨va, vb, ta, ra, tb, rb⟩ m1 f1 h1⟩
    · exact h1.elim
theorem dpi_zip {elts : List Expr} {kk : Nat} {tpos : Pos} (hg : Gl X "zip") (hm : X.mg "zip" = none) (ha : PAd X W [e, e2] ws)
    (hs : starEach [e, e2] X.env = (false, eval e X.env) :: starEach [e2] X.env := by rfl) (hpl : (backTo pos (starEach [e2] X.env)).any (·.1) = false := by rfl) : PId X W (.Tuple elts kk tpos) (.Call (.Name "zip" p) [e, e2] [] pos) (iZp ws) :=
  PI.imp (pi_zipA hg hm ha hs hpl) fun σ H R ⟨σD, S, F, QD, ED, sl, m, h, k, kx⟩ => by
    refine ⟨σD, S, F, _, ED, sl, m, h, fun vs H1 ds S1 F1 r1 m1 f1 h1 => ?_, kx⟩
    dsimp only at h1
    split at h1
    · obtain ⟨v, vr, rfl, ⟨a, va, rfl, ta, ra⟩, v2, vr2, rfl, ⟨b, vb, rfl, tb, rb⟩, rfl⟩ := r1
      exact ⟨a, b, va, vb, rfl, .inr ⟨ta, tb, k _ H1 _ _ _ S1 F1 srv_zipT ⟨va, vb, ta, ra, tb, rb⟩ m1 f1 h1⟩⟩
    · exact h1.elim
/-! ### tuple targets -/
abbrev DGs := List D → DSt → Store → (DSt → Store → Prop) → Prop
def upGs (K : PySem.W.Frag) (vs : List Nat) (g : DGs) : TGs := fun us σ H Q => ∃ ds σD S F QD, Reps K H ds us ∧ SlR K H σD σ ∧ Mod K H S F ∧ g ds σD S QD ∧
  (∀ σ' H' σD' S' F', (∀ j, j ∉ vs → σ'[j]? = σ[j]?) → σ'.length = σ.length → SlR K H' σD' σ' → Mod K H' S' F' → Fm S F H S' F' H' → QD σD' S' → Q σ' H')
abbrev PGsd (X : Cx) (vs : List Nat) (e : List Expr) (g : DGs) : Prop := PGs X e (upGs X.K vs g)
def gNl : DGs := fun ds σ S Q => match ds with | [] => Q σ S | _ => False
def gCs (g : DG) (r : DGs) : DGs := fun ds σ S Q => match ds with | d :: dr => g d σ S (fun σ' S' => r dr σ' S' Q) | _ => False
def gTp (n : Nat) (r : DGs) : DG := fun d σ S Q => match d with | .tup ds => ds.length = n ∧ r ds σ S Q | _ => False
theorem dpgs_nil : PGsd X vs [] gNl := PGs.imp pgs_nil fun us σ H Q ⟨ds, σD, S, F, QD, r, sl, m, h, k⟩ => by
  unfold gNl at h
  split at h
  · exact ⟨r, k σ H σD S F (fun _ _ => rfl) rfl sl m (Fm.refl S F H) h⟩
  · exact h.elim
theorem dpgs_cons {r : DGs} (h1 : PGd X vs e g) (h2 : PGsd X vs es r) (hs : (assignEach (e :: es) X.env).map (·.2) = assign e X.env :: (assignEach es X.env).map (·.2) := by rfl) : PGsd X vs (e :: es) (gCs g r) :=
  PGs.imp (pgs_cons h1 h2 hs) fun us σ H Q ⟨ds, σD, S, F, QD, rr, sl, m, h, k⟩ => by
    unfold gCs at h
    split at h
    · obtain ⟨v, vr, rfl, r1, r2⟩ := rr
      refine ⟨v, vr, rfl, _, σD, S, F, _, r1, sl, m, h, fun σ' H' σD' S' F' o l sl' m' f q => ?_⟩
      exact ⟨_, σD', S', F', QD, Reps.kp (f.kp m) _ _ r2, sl', m', q, fun σ2 H2 σD2 S2 F2 o2 l2 sl2 m2 f2 q2 => k σ2 H2 σD2 S2 F2 (fun j hj => (o2 j hj).trans (o j hj)) (l2.trans l) sl2 m2 (f.trans f2) q2⟩
    · exact h.elim
theorem dpg_tup {k : Nat} {r : DGs} {n : Nat} (hc : X.calm = true) (h : PGsd X vs es r)
    (hn : (assignEach es X.env).length = n := by rfl) (hst : (assignEach es X.env).findIdx? (·.1) = none := by rfl) : PGd X vs (.Tuple es k pos) (gTp n r) :=
  PG.imp (pg_tup hc h hn hst) fun v σ H Q ⟨d, σD, S, F, QD, rr, sl, m, h, k⟩ => by
    cases d <;> first | exact h.elim | skip
    obtain ⟨a, us, rfl, t, r⟩ := rr
    exact ⟨a, us, rfl, t, by rw [← r.length]; exact h.1, _, σD, S, F, QD, r, sl, m, h.2, k⟩
/-! ### max, min of a tuple of ints -/
def rMaxT (K : PySem.W.Frag) : List V → Hp → VK → Prop := fun vs H Q => ∃ (a : Addr) (ns : List Int), vs = [V.ref a] ∧ SqT K H a (ns.map V.int) ∧ 0 < ns.length ∧ ∀ m, m ∈ ns → (∀ y, y ∈ ns → y ≤ m) → Q (.int m) H
theorem cr_maxT (hc : X.calm = true) : CallR X (.builtin "max") (rMaxT X.K) := fun pins s σ H vs us Q I r ⟨a, ns, ev, tn, ne, q⟩ => by
  subst ev
  obtain rfl := Vals.ref1 r
  obtain ⟨its, rv, ta, _⟩ := I.tuple tn
  have nis : IntsAre its ns := Vals.ints rv
  obtain ⟨ms, em⟩ := nis.allInts.items
  have val := nis.numsOf
  rw [show its = (intItems ms).toList by rw [← em], nums_intItems] at val
  subst val
  rw [em] at ta
  have any : 0 < ms.size := by simpa using ne
  have old : a ≠ s.heap.objs.size := Nat.ne_of_lt ta.lt
  have walk := Walks.tuple (prog := X.prog) (w := X.w) (A := X.A.in1) (I.ok.hd hc) s.heap.objs.size a old (intItems ms)
  refine call_max_walk (wpAny_pyIter_tuple ta ⟨_, _, _, _, _, _, _, rfl, walk, ⟨⟨_, Heap.get?_push_size _ rfl, rfl, rfl⟩, let ⟨o, e, k⟩ := ta; ⟨o, Heap.get?_push_of_some _ e, k⟩⟩, fun c hcm => ?_,
    by simpa [intItems] using any, CmpOf.ints_gt (numAt ms) (fun _ _ => intItems_at), fun v h1 tk P1 k1 => ?_⟩)
  · show c < (Heap.push s.heap _).objs.size
    have l := ta.lt
    rw [Heap.size_push]
    simp only [List.mem_cons, List.not_mem_nil, or_false] at hcm
    rcases hcm with e | e <;> rw [e]
    · exact Nat.lt_succ_self _
    · exact Nat.lt_succ_of_lt l
  · have gi : (intItems ms)[argBest (fun p q => decide (numAt ms p > numAt ms q)) (ms.size - 1)]? = some v := by simpa [intItems] using P1
    have top := argBest_gt (numAt ms) (ms.size - 1)
    obtain ⟨t, rfl⟩ := intItems_at gi
    refine ⟨.int _, H, I.kept fun c o e => k1 c o (fun m => ?_) (Heap.get?_push_of_some _ e), ⟨t, rfl⟩, q _ ?_ fun y hy => ?_⟩
    · have l := Heap.lt_size e
      exact Nat.lt_irrefl _ (List.mem_singleton.mp m ▸ l)
    · exact (numAt_eq ms _).symm ▸ PySem.getD_mem (by simp only [List.length_map, Array.length_toList]; omega)
    · obtain ⟨j, lj, rfl⟩ := mem_getD hy
      simp only [List.length_map, Array.length_toList] at lj
      have best := top.2 j (by omega)
      rwa [numAt_eq ms j] at best
/-- of a pair -/
def dMaxT (ds : List D) (S : Store) (Q : DK) : Prop := match ds with | [.tup [.int i, .int j]] => Q (.int (max i j)) S | _ => False
theorem lc_maxT {K : PySem.W.Frag} : LCA K (rMaxT K) dMaxT := by
  intro vs H ds S F QD Q r m h k
  unfold dMaxT at h
  split at h
  · rename_i i j
    obtain ⟨v, vr, rfl, ⟨a, ws, rfl, t, r1⟩, rfl⟩ := r
    have e := Reps.ints (ns := [i, j]) r1
    subst e
    refine ⟨a, [i, j], rfl, t, by simp, fun mx hm hy => ?_⟩
    have e : mx = max i j := by
      have h1 := hy i (by simp)
      have h2 := hy j (by simp)
      rcases (by simpa using hm : mx = i ∨ mx = j) with z | z <;> omega
    subst e
    exact k (.int _) H (.int _) S F rfl m (Fm.refl S F H) h
  · exact h.elim
/-! ### a list that no one changes is walked -/
theorem srv_rl {K : PySem.W.Frag} {a : Addr} {ds : List D} : Srv K (Itl K a) ds (fun _ => True) (fun H _ _ => ∃ vs, SqF K H a vs ∧ Reps K H ds vs) where
  bk := fun S F H S' F' H' m f ⟨vs, h1, h2⟩ => ⟨vs, SqF.kp (f.kp m) h1, Reps.kp (f.kp m) _ _ h2⟩
  go := fun i S F H hi ⟨vs, h1, h2⟩ m _ => ⟨vs, vs[i]'(by rw [← h2.length]; exact hi), (SqF.sq h1), by simp⟩
  stop := fun S F H ⟨vs, h1, h2⟩ m _ => ⟨vs, (SqF.sq h1), by rw [h2.length]; exact Nat.le_refl _⟩
  yld := fun i S F H x H' ⟨vs, h1, h2⟩ m _ ⟨e, y⟩ hi => by
    subst e
    obtain ⟨v, e1, r⟩ := h2.get (List.getElem?_eq_getElem hi)
    have e2 := y vs (SqF.sq h1)
    rw [e1] at e2; cases e2
    exact ⟨_, List.getElem?_eq_getElem hi, r, m, Fm.refl _ _ _⟩
/-- a list, of the store or not -/
def iLn (w : DE) : DI := fun σ S Q E => w σ S (fun d S' => match d with
  | .rl xs => Q xs (fun _ => True) S'
  | .kl xs => Q xs (fun _ => True) S'
  | .ref a => (match S' a with | some (.lst xs) => Q xs (fun S => S a = some (.lst xs)) S' | _ => False)
  | _ => False) E
theorem dpi_ln (hl : PEd X W e w) : PId X W tg e (iLn w) := PI.imp (pi_list hl) fun σ H R ⟨σD, S, F, QD, ED, sl, m, h, k, kx⟩ => by
  refine ⟨σD, S, F, _, ED, sl, m, h, fun v H1 d S1 F1 r1 m1 f1 h1 => ?_, kx⟩
  dsimp only at h1
  split at h1
  · obtain ⟨a, vs, rfl, t, r⟩ := r1
    exact ⟨a, rfl, ⟨vs, SqF.sq (SqZ.sf t)⟩, k _ H1 _ _ _ S1 F1 srv_rl ⟨vs, SqZ.sf t, r⟩ m1 f1 h1⟩
  · obtain ⟨a, vs, rfl, t, r⟩ := r1
    exact ⟨a, rfl, ⟨vs, SqF.sq t⟩, k _ H1 _ _ _ S1 F1 srv_rl ⟨vs, t, r⟩ m1 f1 h1⟩
  · rename_i a
    split at h1
    · rename_i xs e1
      cases r1
      obtain ⟨vs, h2, h3⟩ := m1.obj _ _ e1
      exact ⟨a, rfl, ⟨vs, SqL.of h2⟩, k _ H1 _ _ _ S1 F1 srv_lst True.intro m1 f1 h1⟩
    · exact h1.elim
  · exact h1.elim
end
end DL
/-! ## DL8 -/
namespace DL
open PySem PySem.Spec PyProof.Rows L2
section
variable {X : Cx} {W : WX} {a b c e o i tg : Expr} {es : List Expr} {w wa wb wo wi : DE} {ws vs us : DA} {pos apos cpos p2 : Pos} {name : Str}
/-! ### o[i] = e -/
def setD (o i d : D) (S : Store) (Q : Store → Prop) : Prop := match o, i with
  | .ref a, .int k => (match S a with | some (.lst ds) => (match ixN ds.length k with | some j => Q (sup S a (.lst (ds.set j d))) | none => False) | _ => False)
  | _, _ => False
def gSubD (wo wi : DE) : DG := fun d σ S Q => wo σ S (fun o S1 => wi σ S1 (fun i S2 => setD o i d S2 (fun S3 => Q σ S3)) XF) XF
theorem setD_e {o i d : D} {S : Store} {Q : Store → Prop} (h : setD o i d S Q) : ∃ a k ds j, o = .ref a ∧ i = .int k ∧ S a = some (.lst ds) ∧ ixN ds.length k = some j ∧ Q (sup S a (.lst (ds.set j d))) := by
  unfold setD at h
  split at h
  · split at h
    · split at h
      · exact ⟨_, _, _, _, rfl, rfl, by assumption, by assumption, h⟩
      · exact h.elim
    · exact h.elim
  · exact h.elim
theorem lay_lst {K : PySem.W.Frag} {H : Hp} {S : Store} {F : Own} {a : Addr} {ds es : List D} {xs : List V} (m : Mod K H S F) (e : S a = some (.lst ds)) (r : Reps K H es xs) : Mod K (upd H a (.lst xs)) (sup S a (.lst es)) F :=
  m.put (u' := .lst es) e ⟨xs, upd_same, Reps.kp (kp_mut (m.obj _ _ e).mut) _ _ r⟩
theorem kp_lst {K : PySem.W.Frag} {H : Hp} {S : Store} {F : Own} {a : Addr} {u : MO} {o : HO} (m : Mod K H S F) (e : S a = some u) : Kp H (upd H a o) := kp_mut (m.obj _ _ e).mut
theorem dpg_sub {vv : List Nat} (ho : PEd X (fun _ _ _ _ => False) o wo) (hi : PEd X (fun _ _ _ _ => False) i wi) (ht : ∀ (v : Value), assign (.Subscript o i pos) X.env v = (do
    let ov ← holding [v] (eval o X.env)
    let iv ← holding [v, ov] (eval i X.env)
    standAt pos
    holding [v, ov, iv] (setItem ov iv v)
    release [v, ov, iv] []) := by intro _; rfl) : PGd X vv (.Subscript o i pos) (gSubD wo wi) :=
  PG.imp (pg_sub ho hi set_list ht) fun v σ H Q ⟨d, σD, S, F, QD, r, sl, m, h, k⟩ => by
    refine ⟨σD, S, F, _, _, sl, m, h, fun x H1 od S1 F1 r1 m1 f1 h1 => ?_, fun _ _ _ _ _ _ _ _ _ z => z.elim⟩
    refine ⟨σD, S1, F1, _, _, sl.kp (f1.kp m), m1, h1, fun y H2 id S2 F2 r2 m2 f2 h2 => ?_, fun _ _ _ _ _ _ _ _ _ z => z.elim⟩
    obtain ⟨a, kk, ds, j, rfl, rfl, e1, e2, q⟩ := setD_e h2
    have r1' := Rep.kp (f2.kp m1) _ _ r1
    cases r1'
    cases r2
    obtain ⟨xs, g1, g2⟩ := m2.obj _ _ e1
    refine ⟨a, xs, kk, j, rfl, rfl, g1, by rw [← g2.length]; exact e2, ?_⟩
    have r' := Rep.kp ((f1.trans f2).kp m) _ _ r
    exact k σ _ σD (sup S2 a _) F2 (fun _ _ => rfl) rfl ((sl.kp ((f1.trans f2).kp m)).kp (kp_lst m2 e1)) (lay_lst m2 e1 (Reps.set j r' g2)) ((f1.trans f2).trans (Fm.put e1)) q

/-! ### methods -/
abbrev RM := D → List D → Store → DK → Prop
def LM (K : PySem.W.Frag) (r : V → List V → Hp → VK → Prop) (rD : RM) : Prop := ∀ x vs H d ds S F QD Q, Rep K H d x → Reps K H ds vs → Mod K H S F → rD d ds S QD → Post K S F H QD Q → r x vs H Q
def wBM (ok : D → Store → Prop) (r : RM) (wo : DE) (ws : DA) : DE := fun σ S Q E => wo σ S (fun d S1 => ok d S1 ∧ ws σ S1 (fun xs S2 => r d xs S2 Q) E) E
def TyM (K : PySem.W.Frag) (T : String) (ok : D → Store → Prop) : Prop := ∀ x H d S F, Rep K H d x → Mod K H S F → ok d S → tyV K T x H
theorem dpe_bm {T id : String} {r : V → List V → Hp → VK → Prop} {rD : RM} {ok : D → Store → Prop} (pa : PlainAttrs T) (slot : Slot T name id) (hty : typeOf (.builtin id) = pure (.type "method_descriptor")) (hm : MtR X id r) (hl : LM X.K r rD) (ty : TyM X.K T ok)
    (ho : PEd X W o wo) (ha : PAd X W (e :: es) ws) (h1 : attributeBase o name X.env (eval o X.env) = eval o X.env := by rfl) (h2 : ((((backTo cpos (starEach (e :: es) X.env)).all fun x => !x.fst) && (backToKw cpos (keywordEach [] X.env)).all fun x => x.fst.isSome) && decide (((e :: es).length + ([] : List Keyword).length + if ([] : List Keyword).isEmpty = true then 0 else 1) < 30)) = true := by rfl)
    (h3 : (apos.endLine == cpos.line) = true := by rfl) (h4 : starEach (e :: es) X.env = (false, eval e X.env) :: starEach es X.env := by rfl) (h5 : ((backTo cpos (starEach es X.env)).any fun x => x.fst) = false := by rfl) :
    PEd X W (.Call (.Attribute o name apos) (e :: es) [] cpos) (wBM ok rD wo ws) :=
  PE.imp (pe_bm pa slot hty hm ho ha h1 h2 h3 h4 h5) fun σ H Q ⟨σD, S, F, QD, ED, sl, m, h, k, kx⟩ => by
    refine ⟨σD, S, F, _, ED, sl, m, h, fun v H1 d S1 F1 r1 m1 f1 g1 => ⟨ty v H1 d S1 F1 r1 m1 g1.1, ?_⟩, kx⟩
    refine ⟨σD, S1, F1, _, ED, sl.kp (f1.kp m), m1, g1.2, fun xs H2 ds S2 F2 r2 m2 f2 g2 => ?_, kx.after f1⟩
    exact hl v xs H2 d ds S2 F2 QD Q (Rep.kp (f2.kp m1) _ _ r1) r2 m2 g2 (k.after (f1.trans f2))
theorem dpe_bm0 {T id : String} {r : V → List V → Hp → VK → Prop} {rD : RM} {ok : D → Store → Prop} (pa : PlainAttrs T) (slot : Slot T name id) (hty : typeOf (.builtin id) = pure (.type "method_descriptor")) (hm : MtR X id r) (hl : LM X.K r rD) (ty : TyM X.K T ok)
    (ho : PEd X W o wo) (hpe : ∀ {to : TE}, PE X o to → PE X (.Call (.Attribute o name apos) [] [] cpos) (tBM0 X.K T r to)) :
    PEd X W (.Call (.Attribute o name apos) [] [] cpos) (wBM ok rD wo wNil) :=
  PE.imp (hpe ho) fun σ H Q ⟨σD, S, F, QD, ED, sl, m, h, k, kx⟩ => by
    refine ⟨σD, S, F, _, ED, sl, m, h, fun v H1 d S1 F1 r1 m1 f1 g1 => ⟨ty v H1 d S1 F1 r1 m1 g1.1, ?_⟩, kx⟩
    exact hl v [] H1 d [] S1 F1 QD Q r1 rfl m1 g1.2 (k.after f1)
theorem dpe_bm0' {T id : String} {r : V → List V → Hp → VK → Prop} {rD : RM} {ok : D → Store → Prop} (pa : PlainAttrs T) (slot : Slot T name id) (hty : typeOf (.builtin id) = pure (.type "method_descriptor")) (hm : MtR X id r) (hl : LM X.K r rD) (ty : TyM X.K T ok)
    (ho : PEd X W o wo) (h1 : attributeBase o name X.env (eval o X.env) = eval o X.env := by rfl) (h3 : (apos.endLine == cpos.line) = true := by rfl) : PEd X W (.Call (.Attribute o name apos) [] [] cpos) (wBM ok rD wo wNil) :=
  dpe_bm0 pa slot hty hm hl ty ho fun q => pe_bm0 pa slot hty hm q h1 h3
section
variable {K : PySem.W.Frag}
def onL (d : D) (S : Store) (P : Addr → List D → Prop) : Prop := match d with
  | .ref a => (match S a with | some (.lst xs) => P a xs | _ => False)
  | _ => False
theorem onL_e {d : D} {S : Store} {P : Addr → List D → Prop} (h : onL d S P) : ∃ a xs, d = .ref a ∧ S a = some (.lst xs) ∧ P a xs := by
  unfold onL at h
  split at h
  · split at h
    · exact ⟨_, _, rfl, by assumption, h⟩
    · exact h.elim
  · exact h.elim
def isL (d : D) (S : Store) : Prop := onL d S fun _ _ => True
theorem ty_list : TyM K "list" isL := fun x H d S F r m h => by
  obtain ⟨a, xs, rfl, e, _⟩ := onL_e h
  cases r
  obtain ⟨vs, g, _⟩ := m.obj _ _ e
  exact .inl ⟨rfl, vs, SqL.of g⟩
def dAppend : RM := fun d ds S Q => onL d S fun a xs => match ds with | [y] => xs.length < sizeLine ∧ Q .non (sup S a (.lst (xs ++ [y]))) | _ => False
theorem lm_append : LM K rAppend dAppend := fun x vs H d ds S F QD Q r rs m h k => by
  obtain ⟨a, xs, rfl, e, h'⟩ := onL_e h
  clear h
  have h := h'
  clear h'
  cases r
  obtain ⟨us, g, gr⟩ := m.obj _ _ e
  split at h
  · obtain ⟨y', vr, rfl, ry, rfl⟩ := rs
    exact ⟨a, us, y', rfl, rfl, g, by rw [← gr.length]; exact h.1, k .non _ .non _ F rfl (lay_lst m e (gr.append (Reps.one ry))) (Fm.put e) h.2⟩
  · exact h.elim
def dPop : RM := fun d ds S Q => onL d S fun a xs => match ds, xs[xs.length - 1]? with | [], some y => Q y (sup S a (.lst xs.dropLast)) | _, _ => False
theorem Reps.dropLast {H : Hp} {ds : List D} {vs : List V} (h : Reps K H ds vs) : Reps K H ds.dropLast vs.dropLast := by
  rw [List.dropLast_eq_take, List.dropLast_eq_take, ← h.length]
  exact h.take _
theorem lm_pop : LM K rPop dPop := fun x vs H d ds S F QD Q r rs m h k => by
  obtain ⟨a, xs, rfl, e, h'⟩ := onL_e h
  clear h
  have h := h'
  clear h'
  cases r
  obtain ⟨us, g, gr⟩ := m.obj _ _ e
  split at h
  · rename_i y q
    cases rs
    obtain ⟨w, h1, h2⟩ := gr.get q
    exact ⟨a, us, w, rfl, rfl, g, by rw [← gr.length]; exact h1, k w _ y _ F (Rep.kp (kp_lst m e) _ _ h2) (lay_lst m e gr.dropLast) (Fm.put e) h⟩
  · exact h.elim
def dPopAt : RM := fun d ds S Q => onL d S fun a xs => match ds with
  | [.int i] => (-(2 ^ 63) ≤ i ∧ i < 2 ^ 63) ∧ (match seqIndex? i xs.length with | some k => (match xs[k]? with | some y => Q y (sup S a (.lst (xs.eraseIdx k))) | none => False) | none => False)
  | _ => False
theorem lm_popAt : LM K rPopAt dPopAt := fun x vs H d ds S F QD Q r rs m h k => by
  obtain ⟨a, xs, rfl, e, h'⟩ := onL_e h
  clear h
  have h := h'
  clear h'
  cases r
  obtain ⟨us, g, gr⟩ := m.obj _ _ e
  split at h
  · rename_i i
    obtain ⟨y', vr, rfl, ry, rfl⟩ := rs
    cases ry
    obtain ⟨h0, h⟩ := h
    split at h
    · rename_i kk q
      split at h
      · rename_i y q2
        obtain ⟨w, h1, h2⟩ := gr.get q2
        exact ⟨a, us, i, kk, w, rfl, rfl, g, h0.1, h0.2, by rw [← gr.length]; exact q, h1, k w _ y _ F (Rep.kp (kp_lst m e) _ _ h2) (lay_lst m e (gr.eraseIdx kk)) (Fm.put e) h⟩
      · exact h.elim
    · exact h.elim
  · exact h.elim
def dClear : RM := fun d ds S Q => onL d S fun a xs => match ds with | [] => Q .non (sup S a (.lst [])) | _ => False
theorem lm_clear : LM K rClear dClear := fun x vs H d ds S F QD Q r rs m h k => by
  obtain ⟨a, xs, rfl, e, h'⟩ := onL_e h
  clear h
  have h := h'
  clear h'
  cases r
  obtain ⟨us, g, gr⟩ := m.obj _ _ e
  split at h
  · cases rs
    exact ⟨a, us, rfl, rfl, g, k .non _ .non _ F rfl (lay_lst (es := []) m e rfl) (Fm.put e) h⟩
  · exact h.elim
def dReverse : RM := fun d ds S Q => onL d S fun a xs => match ds with | [] => Q .non (sup S a (.lst xs.reverse)) | _ => False
theorem Reps.reverse {H : Hp} : ∀ {ds : List D} {vs : List V}, Reps K H ds vs → Reps K H ds.reverse vs.reverse
  | [], _, h => by cases h; rfl
  | d :: ds, _, ⟨v, vr, e, h, r⟩ => by subst e; rw [List.reverse_cons, List.reverse_cons]; exact (Reps.reverse r).append (Reps.one h)
theorem lm_reverse : LM K rReverse dReverse := fun x vs H d ds S F QD Q r rs m h k => by
  obtain ⟨a, xs, rfl, e, h'⟩ := onL_e h
  clear h
  have h := h'
  clear h'
  cases r
  obtain ⟨us, g, gr⟩ := m.obj _ _ e
  split at h
  · cases rs
    exact ⟨a, us, rfl, rfl, g, k .non _ .non _ F rfl (lay_lst m e gr.reverse) (Fm.put e) h⟩
  · exact h.elim
def dExtend : RM := fun d ds S Q => onL d S fun a xs => match ds with | [y] => (onL y S fun b ys => xs.length + ys.length ≤ sizeLine ∧ Q .non (sup S a (.lst (xs ++ ys)))) | _ => False
theorem lm_extend : LM K rExtend dExtend := fun x vs H d ds S F QD Q r rs m h k => by
  obtain ⟨a, xs, rfl, e, h'⟩ := onL_e h
  clear h
  have h := h'
  clear h'
  cases r
  obtain ⟨us, g, gr⟩ := m.obj _ _ e
  split at h
  · obtain ⟨y', vr, rfl, ry, rfl⟩ := rs
    obtain ⟨b, ys, rfl, e2, h⟩ := onL_e h
    cases ry
    obtain ⟨us2, g2, gr2⟩ := m.obj _ _ e2
    exact ⟨a, b, us, us2, rfl, rfl, g, g2, by rw [← gr.length, ← gr2.length]; exact h.1, k .non _ .non _ F rfl (lay_lst m e (gr.append gr2)) (Fm.put e) h.2⟩
  · exact h.elim
def dInsert : RM := fun d ds S Q => onL d S fun a xs => match ds with | [.int i, y] => xs.length < sizeLine ∧ 0 ≤ i ∧ i < 2 ^ 63 ∧ Q .non (sup S a (.lst (xs.take i.toNat ++ [y] ++ xs.drop i.toNat))) | _ => False
theorem lm_insert : LM K (fun x vs H Q => ∃ (l : Addr) (xs : List V) (i : Int) (y : V), x = .ref l ∧ vs = [.int i, y] ∧ H l = some (.lst xs) ∧ xs.length < sizeLine ∧ 0 ≤ i ∧ i < 2 ^ 63 ∧ Q .non (upd H l (.lst (xs.take i.toNat ++ [y] ++ xs.drop i.toNat)))) dInsert := fun x vs H d ds S F QD Q r rs m h k => by
  obtain ⟨a, xs, rfl, e, h'⟩ := onL_e h
  clear h
  have h := h'
  clear h'
  cases r
  obtain ⟨us, g, gr⟩ := m.obj _ _ e
  split at h
  · obtain ⟨y1, vr, rfl, ry, y2, vr2, rfl, ry2, rfl⟩ := rs
    cases ry
    exact ⟨a, us, _, y2, rfl, rfl, g, by rw [← gr.length]; exact h.1, h.2.1, h.2.2.1, k .non _ .non _ F rfl (lay_lst m e (((gr.take _).append (Reps.one ry2)).append (gr.drop _))) (Fm.put e) h.2.2.2⟩
  · exact h.elim
end

/-! ### + * of lists -/
def wCatN (wa wb : DA) : DA := fun σ S Q E => wa σ S (fun xs S1 => wb σ S1 (fun ys S2 => xs.length + ys.length ≤ sizeLine ∧ Q (xs ++ ys) S2) E) E
def wCatV (wa : DE) (wb : DA) : DA := fun σ S Q E => wa σ S (fun d S1 => wb σ S1 (fun ys S2 => onL d S2 fun _ xs => xs.length + ys.length ≤ sizeLine ∧ Q (xs ++ ys) S2) E) E
def wCatVV (wa wb : DE) : DA := fun σ S Q E => wa σ S (fun d S1 => wb σ S1 (fun d2 S2 => onL d S2 fun _ xs => onL d2 S2 fun _ ys => xs.length + ys.length ≤ sizeLine ∧ Q (xs ++ ys) S2) E) E
def wCatNV (wa : DA) (wb : DE) : DA := fun σ S Q E => wa σ S (fun xs S1 => wb σ S1 (fun d2 S2 => onL d2 S2 fun _ ys => xs.length + ys.length ≤ sizeLine ∧ Q (xs ++ ys) S2) E) E
theorem end_lst {K : PySem.W.Frag} {H H0 : Hp} {S S0 : Store} {F F0 : Own} {ds : List D} {xs : List V} {QD : List D → Store → Prop} {Q : VK} {l : Addr} (k : PostL K S0 F0 H0 QD Q) (m : Mod K H S F) (f : Fm S0 F0 H0 S F H) (r : Reps K H ds xs) (q : QD ds S) (hl : H l = none) : Q (.ref l) (upd H l (.lst xs)) := by
  obtain ⟨hs, hf⟩ := m.fresh hl
  exact k l xs _ _ S F upd_same hs hf (Nw.back f (.inr (.inr hl))) (Reps.kp (kp_new hl) _ _ r) (m.laid hl) (f.trans (Fm.laid hl)) q
theorem dpl_catN (ha : PLd X W a ws) (hb : PLd X W b vs) : PLd X W (.BinOp a .Add b pos) (wCatN ws vs) :=
  PE.imp (pe_op op_cat ha hb) fun σ H Q ⟨σD, S, F, QD, ED, sl, m, h, k, kx⟩ => by
    refine ⟨σD, S, F, _, ED, sl, m, h, fun p xs H1 ds S1 F1 q1 q2 q3 n r1 m1 f1 h1 => ?_, kx⟩
    refine ⟨σD, S1, F1, _, ED, sl.kp (f1.kp m), m1, h1, fun p2 ys H2 es S2 F2 u1 u2 u3 n2 r2 m2 f2 h2 => ?_, kx.after f1⟩
    obtain ⟨z1, z2, z3⟩ := f2.cl q1 q2 q3
    have r1' := Reps.kp (f2.kp m1) _ _ r1
    exact ⟨p, p2, xs, ys, rfl, rfl, z1, u1, by rw [← r1.length, ← r2.length]; exact h2.1, fun l hl => end_lst k m2 (f1.trans f2) (r1'.append r2) h2.2 hl⟩
theorem dpl_catV (ha : PEd X W a wa) (hb : PLd X W b vs) : PLd X W (.BinOp a .Add b pos) (wCatV wa vs) :=
  PE.imp (pe_op op_cat ha hb) fun σ H Q ⟨σD, S, F, QD, ED, sl, m, h, k, kx⟩ => by
    refine ⟨σD, S, F, _, ED, sl, m, h, fun v H1 d S1 F1 r1 m1 f1 h1 => ?_, kx⟩
    refine ⟨σD, S1, F1, _, ED, sl.kp (f1.kp m), m1, h1, fun p2 ys H2 es S2 F2 u1 u2 u3 n2 r2 m2 f2 h2 => ?_, kx.after f1⟩
    obtain ⟨a, xs, rfl, e, h3⟩ := onL_e h2
    cases r1
    obtain ⟨us, g, gr⟩ := m2.obj _ _ e
    exact ⟨a, p2, us, ys, rfl, rfl, g, u1, by rw [← gr.length, ← r2.length]; exact h3.1, fun l hl => end_lst k m2 (f1.trans f2) (gr.append r2) h3.2 hl⟩
theorem dpl_catVV (ha : PEd X W a wa) (hb : PEd X W b wb) : PLd X W (.BinOp a .Add b pos) (wCatVV wa wb) :=
  PE.imp (pe_op op_cat ha hb) fun σ H Q ⟨σD, S, F, QD, ED, sl, m, h, k, kx⟩ => by
    refine ⟨σD, S, F, _, ED, sl, m, h, fun v H1 d S1 F1 r1 m1 f1 h1 => ?_, kx⟩
    refine ⟨σD, S1, F1, _, ED, sl.kp (f1.kp m), m1, h1, fun v2 H2 d2 S2 F2 r2 m2 f2 h2 => ?_, kx.after f1⟩
    obtain ⟨a, xs, rfl, e, h3⟩ := onL_e h2
    obtain ⟨b, ys, rfl, e2, h4⟩ := onL_e h3
    cases r1
    cases r2
    obtain ⟨us, g, gr⟩ := m2.obj _ _ e
    obtain ⟨us2, g2, gr2⟩ := m2.obj _ _ e2
    exact ⟨a, b, us, us2, rfl, rfl, g, g2, by rw [← gr.length, ← gr2.length]; exact h4.1, fun l hl => end_lst k m2 (f1.trans f2) (gr.append gr2) h4.2 hl⟩
theorem dpl_catNV (ha : PLd X W a ws) (hb : PEd X W b wb) : PLd X W (.BinOp a .Add b pos) (wCatNV ws wb) :=
  PE.imp (pe_op op_cat ha hb) fun σ H Q ⟨σD, S, F, QD, ED, sl, m, h, k, kx⟩ => by
    refine ⟨σD, S, F, _, ED, sl, m, h, fun p xs H1 ds S1 F1 q1 q2 q3 n r1 m1 f1 h1 => ?_, kx⟩
    refine ⟨σD, S1, F1, _, ED, sl.kp (f1.kp m), m1, h1, fun v2 H2 d2 S2 F2 r2 m2 f2 h2 => ?_, kx.after f1⟩
    obtain ⟨z1, z2, z3⟩ := f2.cl q1 q2 q3
    have r1' := Reps.kp (f2.kp m1) _ _ r1
    obtain ⟨b, ys, rfl, e2, h4⟩ := onL_e h2
    cases r2
    obtain ⟨us2, g2, gr2⟩ := m2.obj _ _ e2
    exact ⟨p, b, xs, us2, rfl, rfl, z1, g2, by rw [← r1.length, ← gr2.length]; exact h4.1, fun l hl => end_lst k m2 (f1.trans f2) (r1'.append gr2) h4.2 hl⟩
/-- [..] * k -/
def wRepL (wa : DA) (wb : DE) : DA := fun σ S Q E => wa σ S (fun xs S1 => wb σ S1 (fun d S2 => match d with | .int k => (-(2 ^ 63) ≤ k ∧ k < 2 ^ 63 ∧ xs.length * k.toNat ≤ sizeLine) ∧ Q (List.replicate k.toNat xs).flatten S2 | _ => False) E) E
theorem dpl_rep (ha : PLd X W a ws) (hb : PEd X W b wb) : PLd X W (.BinOp a .Mult b pos) (wRepL ws wb) :=
  PE.imp (pe_op op_rep ha hb) fun σ H Q ⟨σD, S, F, QD, ED, sl, m, h, k, kx⟩ => by
    refine ⟨σD, S, F, _, ED, sl, m, h, fun p xs H1 ds S1 F1 q1 q2 q3 n r1 m1 f1 h1 => ?_, kx⟩
    refine ⟨σD, S1, F1, _, ED, sl.kp (f1.kp m), m1, h1, fun v2 H2 d2 S2 F2 r2 m2 f2 h2 => ?_, kx.after f1⟩
    obtain ⟨z1, z2, z3⟩ := f2.cl q1 q2 q3
    have r1' := Reps.kp (f2.kp m1) _ _ r1
    cases d2 <;> first | exact h2.elim | skip
    rename_i kk
    cases r2
    exact ⟨p, kk, xs, rfl, rfl, z1, h2.1.1, h2.1.2.1, by rw [← r1.length]; exact h2.1.2.2, fun l hl => end_lst k m2 (f1.trans f2) (r1'.rep _) h2.2 hl⟩
/-- xs[lo:hi], xs a list of the store -/
def wSlV (w : DE) (l u : DO) : DA := fun σ S Q E => w σ S (fun d S1 => l σ S1 (fun lo S2 => u σ S2 (fun hi S3 => onL d S3 fun _ xs => Q (cutD xs lo hi) S3) E) E) E
theorem dpl_slV {lo hi : Option Expr} {l u : DO} (he : PEd X W e w) (hl : POd X W lo l) (hu : POd X W hi u) : PLd X W (.Subscript e (.Slice lo hi none p2) pos) (wSlV w l u) :=
  PE.imp (pe_slice sl_list he hl hu) fun σ H Q ⟨σD, S, F, QD, ED, sl, m, h, k, kx⟩ => by
    refine ⟨σD, S, F, _, ED, sl, m, h, fun v H1 d S1 F1 r1 m1 f1 h1 => ?_, kx⟩
    refine ⟨σD, S1, F1, _, ED, sl.kp (f1.kp m), m1, h1, fun lo H2 S2 F2 m2 f2 h2 => ?_, kx.after f1⟩
    have f12 := f1.trans f2
    refine ⟨σD, S2, F2, _, ED, sl.kp (f12.kp m), m2, h2, fun hi H3 S3 F3 m3 f3 h3 => ?_, kx.after f12⟩
    obtain ⟨a, xs, rfl, e, h4⟩ := onL_e h3
    cases r1
    obtain ⟨us, g, gr⟩ := m3.obj _ _ e
    exact ⟨a, us, rfl, SqL.of g, fun l hl => end_lst k m3 (f12.trans f3) (gr.cut lo hi) h4 hl⟩

/-! ### tables of constants -/
def getSS (kvs : List (Str × Str)) (s : Str) : Option Str := (kvs.find? fun kv => decide (kv.1 = s)).map (·.2)
def getSSD (kvs : List (Str × Str)) (s : Str) (z : D) : D := match getSS kvs s with | some y => .str y | none => z
def wDGetC (kvs : List (Str × Str)) (wi wx : DE) : DE := fun σ S Q E => wi σ S (fun i S1 => wx σ S1 (fun z S2 => match i with | .str s => Q (getSSD kvs s z) S2 | _ => False) E) E
def trSS (kvs : List (Str × Str)) : List (TE × TE) := kvs.map fun kv => (tC (.str kv.1), tC (.str kv.2))
theorem pairs_SS : ∀ (kvs : List (Str × Str)) (σ : L2.St) (H : Hp) (Q : List (V × V) → Hp → Prop), Q (kvs.map fun kv => (V.str kv.1, V.str kv.2)) H → tPairs (trSS kvs) σ H Q
  | [], _, _, _, h => h
  | kv :: r, σ, H, Q, h => pairs_SS r σ H _ h
def kvSS (kvs : List (Str × Str)) : List (Key × V) := kvs.map fun kv => (.inr kv.1, .str kv.2)
theorem mergeSS : ∀ (kvs : List (Str × Str)), (kvs.map (·.1)).Nodup → ∀ acc : List (Key × V), (∀ kv ∈ kvs, ∀ a ∈ acc, a.1 ≠ .inr kv.1) → mergeK acc (kvSS kvs) = acc ++ kvSS kvs
  | [], _, acc, _ => by simp [kvSS, mergeK]
  | kv :: r, nd, acc, h => by
    have e : putK acc (.inr kv.1) (.str kv.2) = acc ++ [(.inr kv.1, .str kv.2)] := by
      unfold putK
      rw [if_neg]
      intro z
      obtain ⟨a, ha, hb⟩ := List.any_eq_true.mp z
      exact h kv (by simp) a ha (of_decide_eq_true hb)
    show mergeK (putK acc (.inr kv.1) (.str kv.2)) (kvSS r) = _
    rw [e, mergeSS r (List.nodup_cons.mp nd).2 _ (fun kv' hk a ha => ?_)]
    · simp [kvSS]
    · rcases List.mem_append.mp ha with ha | ha
      · exact h kv' (by simp [hk]) a ha
      · have e2 : a = (.inr kv.1, .str kv.2) := by simpa using ha
        subst e2
        intro z
        have z' : kv.1 = kv'.1 := Sum.inr.inj z
        exact (List.nodup_cons.mp nd).1 (List.mem_map.mpr ⟨kv', hk, z'.symm⟩)
theorem valSS (kvs : List (Str × Str)) (s : Str) : valV (kvSS kvs) (.inr s) = (getSS kvs s).map V.str := by
  unfold valV getSS kvSS
  rw [List.find?_map]
  have e : ((fun kv : Key × V => decide (kv.1 = Sum.inr s)) ∘ fun kv : Str × Str => ((Sum.inr kv.1 : Key), V.str kv.2)) = fun kv => decide (kv.1 = s) := by
    funext kv
    simp
  rw [e]
  cases List.find? (fun kv : Str × Str => decide (kv.1 = s)) kvs <;> rfl
theorem dpe_dgetC {keys : List (Option Expr)} {vals : List Expr} {kvs : List (Str × Str)} (hu : X.A.units + 1 < cLine) (hp : PPs X pos keys vals (trSS kvs)) (nd : (kvs.map (·.1)).Nodup) (h15 : kvs.length ≤ 15) (hi : PEd X W a wa) (hx : PEd X W b wb)
    (m2 : M2 X (.Dict keys vals pos) "get" apos a b cpos) (hall : keys.all (·.isSome) = true := by rfl) (hl : keys.length = vals.length := by rfl) (h0 : keys ≠ [] := by simp) (hk15 : keys.length ≤ 15 := by decide) :
    PEd X W (.Call (.Attribute (.Dict keys vals pos) "get" apos) [a, b] [] cpos) (wDGetC kvs wa wb) :=
  PE.imp (pe_dget2 hu (pe_disp hp hall hl h0 hk15) hi hx m2) fun σ H Q ⟨σD, S, F, QD, ED, sl, m, h, k, kx⟩ => by
    intro p hp'
    refine pairs_SS kvs σ _ _ ⟨upd_same, kvSS kvs, by simp [kvSS, kV], by simpa [kvSS] using h15, ?_⟩
    have em : mergeK [] (kvSS kvs) = kvSS kvs := by
      have := mergeSS kvs nd [] (fun _ _ a ha => by cases ha)
      simpa using this
    rw [em, upd_upd]
    refine ⟨p, rfl, .inl ⟨kvSS kvs, .inl upd_same⟩, ?_⟩
    have f0 : Fm S F H S F (upd H p (.dK (kvSS kvs))) := Fm.laid hp'
    obtain ⟨hs, hf⟩ := m.fresh hp'
    refine ⟨σD, S, F, _, ED, sl.kp (kp_new hp'), m.laid hp', h, fun v H1 d S1 F1 r1 m1 f1 h1 => ?_, kx.after f0⟩
    refine ⟨σD, S1, F1, _, ED, (sl.kp (kp_new hp')).kp (f1.kp (m.laid hp')), m1, h1, fun v2 H2 d2 S2 F2 r2 m2 f2 h2 => ?_, kx.after (f0.trans f1)⟩
    obtain ⟨z1, z2, z3⟩ := f1.cl (upd_same (H := H) (a := p) (o := .dK (kvSS kvs))) hs hf
    obtain ⟨y1, y2, y3⟩ := f2.cl z1 z2 z3
    cases d <;> first | exact h2.elim | skip
    rename_i s
    cases r1
    refine ⟨(getSS kvs s).map V.str, .inl ⟨kvSS kvs, .inr s, .inl y1, rfl, (valSS kvs s).symm⟩, ?_⟩
    have f012 := (f0.trans f1).trans f2
    dsimp only at h2
    unfold getSSD at h2
    cases e : getSS kvs s with
    | none => rw [e] at h2; exact k v2 H2 d2 S2 F2 r2 m2 f012 h2
    | some y => rw [e] at h2; exact k (.str y) H2 (.str y) S2 F2 rfl m2 f012 h2
end
end DL
/-! ## DL9 -/
namespace DL
open PySem PySem.Spec PyProof.Rows L2
/-! ### plain facts -/
theorem atI0 {α : Type} {a : α} {r : List α} : atI (a :: r) 0 = some a := by simp [atI, ixN]
theorem atI1 {α : Type} {a b : α} {r : List α} : atI (a :: b :: r) 1 = some b := by
  unfold atI ixN
  rw [if_pos (by omega), if_pos (by simp only [List.length_cons]; omega)]
  rfl
theorem atI2 {α : Type} {a b c : α} {r : List α} : atI (a :: b :: c :: r) 2 = some c := by
  unfold atI ixN
  rw [if_pos (by omega), if_pos (by simp only [List.length_cons]; omega)]
  rfl
theorem ixN0 {n : Nat} : ixN (n + 1) 0 = some 0 := by simp [ixN]
theorem ixN1 {n : Nat} : ixN (n + 1 + 1) 1 = some 1 := by
  unfold ixN
  rw [if_pos (by omega), if_pos (by omega)]
  rfl
theorem atI_lt {α : Type} {xs : List α} {i : Int} (h0 : 0 ≤ i) (h1 : i < xs.length) : atI xs i = some (xs[i.toNat]'(by omega)) := by
  unfold atI ixN
  rw [if_pos h0, if_pos h1]
  exact List.getElem?_eq_getElem _
theorem ixN_lt {n : Nat} {i : Int} (h0 : 0 ≤ i) (h1 : i < n) : ixN n i = some i.toNat := by
  unfold ixN
  rw [if_pos h0, if_pos h1]
theorem seqIndex0 {n : Nat} : seqIndex? 0 (n + 1) = some 0 := by simp [seqIndex?]
theorem atI_ofN {α : Type} {xs : List α} (i : Nat) : atI xs (i : Int) = xs[i]? := by
  unfold atI ixN
  rw [if_pos (Int.natCast_nonneg i)]
  by_cases h : i < xs.length
  · rw [if_pos (by omega)]; rfl
  · rw [if_neg (by omega), List.getElem?_eq_none (by omega)]; rfl
section
variable {S : Store}
theorem sup_self {a : Addr} {o : MO} (h : S a = some o) : sup S a o = S := by
  funext b
  unfold sup
  split
  · rename_i e; rw [e, h]
  · rfl
theorem sup_comm {a b : Addr} {o u : MO} (h : a ≠ b) : sup (sup S a o) b u = sup (sup S b u) a o := by
  funext c
  unfold sup
  by_cases h1 : c = a
  · subst h1; simp [h]
  · by_cases h2 : c = b
    · subst h2; simp [h1]
    · simp [h1, h2]
theorem pyrs_ints : ∀ {ns : List Int}, PyRs S (ns.map PyData.int) (ns.map D.int)
  | [] => rfl
  | n :: ns => ⟨_, _, rfl, rfl, pyrs_ints⟩
theorem lay_ints : ∀ (ns : List Int), PyData.canLayAll0 (ns.map PyData.int) = true
  | [] => by simp [PyData.canLayAll0]
  | n :: ns => by simp [PyData.canLayAll0, PyData.canLay0, lay_ints ns]
theorem depth_ints : ∀ (ns : List Int), PyData.depthAll (ns.map PyData.int) = 0
  | [] => by simp [PyData.depthAll]
  | n :: ns => by simp [PyData.depthAll, PyData.depth, depth_ints ns]
theorem shaped_li (ns : List Int) : SeqAt.shaped (.list (ns.map .int)) = true := by
  unfold SeqAt.shaped
  simp [PyData.canLay0, PyData.depth, lay_ints, depth_ints]
theorem shaped_ti (ns : List Int) : SeqAt.shaped (.tuple (ns.map .int)) = true := by
  unfold SeqAt.shaped
  simp [PyData.canLay0, PyData.depth, lay_ints, depth_ints]
theorem eqvAll_ints : ∀ (as bs : List Int), PyData.eqvAll (as.map .int) (bs.map .int) = decide (as = bs)
  | [], [] => by simp [PyData.eqvAll]
  | [], _ :: _ => by simp [PyData.eqvAll]
  | _ :: _, [] => by simp [PyData.eqvAll]
  | a :: as, b :: bs => by
    simp only [List.map_cons, PyData.eqvAll, PyData.eqv, eqvAll_ints as bs]
    by_cases h : a = b
    · subst h; simp
    · simp [h]
end
/-! ### the box of draws: opened, closed -/
section
variable {K : PySem.W.Frag} {H H' : Hp} {S S' : Store} {F F' : Own}
def funset (F : Own) (l : Addr) (o : Option Addr) : Own := fun x => if x = l then o else F x
theorem box_open {b : Addr} (m : Mod K H S F) (e : S b = some .box) : ∃ (l : Addr) (z : Int) (ns : List Int), b ≠ l ∧ S l = none ∧ 0 ≤ z ∧ z < 2147483647 ∧ ns.length ≤ 63 ∧
    Mod K H (sup (sup S b (.lst [.ref l, .int z])) l (.lst (ns.map D.int))) (funset F l none) ∧ Fm S F H (sup (sup S b (.lst [.ref l, .int z])) l (.lst (ns.map D.int))) (funset F l none) H := by
  obtain ⟨l, z, ns, h1, h2, h3, h4, h5, h6⟩ := m.obj _ _ e
  obtain ⟨sl, nl⟩ := m.hid _ _ h3
  have ne : b ≠ l := fun q => by rw [q, sl] at e; cases e
  refine ⟨l, z, ns, ne, sl, h4, h5, h6, ⟨fun a o q => ?_, fun x a q => ?_⟩, ⟨fun a o q _ _ => q, fun a q => ?_, fun a q => ?_⟩⟩
  · by_cases ha : a = l
    · subst ha
      rw [sup_same] at q
      cases q
      exact ⟨_, h2, Reps.of_ints ns⟩
    · rw [sup_ne ha] at q
      by_cases hb : a = b
      · subst hb
        rw [sup_same] at q
        cases q
        exact ⟨_, h1, _, _, rfl, rfl, _, _, rfl, rfl, rfl⟩
      · rw [sup_ne hb] at q
        have r := m.obj _ _ q
        cases o with
        | box =>
          obtain ⟨l', z', ns', g1, g2, g3, g4⟩ := r
          have nl' : l' ≠ l := fun q' => by rw [q', h3] at g3; exact hb (Option.some.inj g3).symm
          exact ⟨l', z', ns', g1, g2, by unfold funset; rw [if_neg nl']; exact g3, g4⟩
        | own C fs sub =>
          obtain ⟨r1, nd, r2⟩ := r
          refine ⟨r1, nd, fun x u hm => ?_⟩
          obtain ⟨g1, g2⟩ := r2 x u hm
          have nx : x ≠ l := fun q' => by rw [q', h3] at g2; exact hb (Option.some.inj g2).symm
          exact ⟨g1, by unfold funset; rw [if_neg nx]; exact g2⟩
        | _ => exact r
  · unfold funset at q
    split at q
    · cases q
    · rename_i nx
      obtain ⟨g1, g2⟩ := m.hid _ _ q
      refine ⟨?_, g2⟩
      rw [sup_ne nx, sup_ne (fun z => by rw [z, e] at g1; cases g1)]
      exact g1
  · by_cases ha : a = l
    · subst ha; exact .inr (.inl (by rw [h3]; simp))
    · rw [sup_ne ha] at q
      by_cases hb : a = b
      · subst hb; exact .inl (by rw [e]; simp)
      · rw [sup_ne hb] at q; exact .inl q
  · unfold funset at q
    split at q
    · exact absurd rfl q
    · exact .inr (.inl q)
theorem box_close {b l : Addr} {z : Int} {ns : List Int} (m : Mod K H' S' F') (hb : S' b = some (.lst [.ref l, .int z])) (hl : S' l = some (.lst (ns.map D.int))) (z0 : 0 ≤ z) (z1 : z < 2147483647) (hn : ns.length ≤ 63) (f : Fm S F H S' F' H') (nw : Nw S F H l) :
    Mod K H' (sup (sdel S' l) b .box) (funset F' l (some b)) ∧ Fm S F H (sup (sdel S' l) b .box) (funset F' l (some b)) H' := by
  obtain ⟨vs, h1, r1⟩ := m.obj _ _ hb
  obtain ⟨us, h2, r2⟩ := m.obj _ _ hl
  have e2 := Reps.ints r2
  subst e2
  obtain ⟨v1, vr, rfl, q1, v2, vr2, rfl, q2, rfl⟩ := r1
  cases q1
  cases q2
  have ne : b ≠ l := fun q => by
    rw [q, h2] at h1
    have := HO.lst.inj (Option.some.inj h1)
    cases ns with
    | nil => cases this
    | cons n r => simp at this
  have fl : F' l = none := by
    cases q : F' l with
    | none => rfl
    | some a => have := (m.hid _ _ q).1; rw [hl] at this; cases this
  refine ⟨⟨fun a o q => ?_, fun x a q => ?_⟩, ⟨f.keep, fun a q => ?_, fun a q => ?_⟩⟩
  · by_cases ha : a = b
    · subst ha
      rw [sup_same] at q
      cases q
      exact ⟨l, z, ns, h1, h2, by unfold funset; rw [if_pos rfl], z0, z1, hn⟩
    · rw [sup_ne ha] at q
      unfold sdel at q
      split at q
      · cases q
      · rename_i hal
        have r := m.obj _ _ q
        cases o with
        | box =>
          obtain ⟨l', z', ns', g1, g2, g3, g4⟩ := r
          have nl' : l' ≠ l := fun q' => by rw [q', fl] at g3; cases g3
          exact ⟨l', z', ns', g1, g2, by unfold funset; rw [if_neg nl']; exact g3, g4⟩
        | own C fs sub =>
          obtain ⟨r1, nd, r2⟩ := r
          refine ⟨r1, nd, fun x u hm => ?_⟩
          obtain ⟨g1, g2⟩ := r2 x u hm
          have nx : x ≠ l := fun q' => by rw [q', fl] at g2; cases g2
          exact ⟨g1, by unfold funset; rw [if_neg nx]; exact g2⟩
        | _ => exact r
  · unfold funset at q
    split at q
    · rename_i hx
      subst hx
      refine ⟨?_, (m.obj _ _ hl).mut⟩
      rw [sup_ne (fun z => ne z.symm)]
      unfold sdel
      rw [if_pos rfl]
    · rename_i nx
      obtain ⟨g1, g2⟩ := m.hid _ _ q
      refine ⟨?_, g2⟩
      rw [sup_ne (fun z => by rw [z, hb] at g1; cases g1)]
      unfold sdel
      rw [if_neg nx]
      exact g1
  · refine f.st a ?_
    by_cases ha : a = b
    · subst ha; rw [hb]; simp
    · rw [sup_ne ha] at q
      unfold sdel at q
      split at q
      · exact absurd rfl q
      · exact q
  · unfold funset at q
    split at q
    · rename_i hx; subst hx; exact nw
    · exact f.hd a q
theorem Cal.imp {P : Program} {w : World} {mg : Str → Option Value} {base : Heap} {x : Str} {k : Nat} {ps : List Str} {sp sp' : SpD} (G : Cal P w K mg base x k ps sp) (h : ∀ vs H Q E, upSp K mg sp' vs H Q E → upSp K mg sp vs H Q E) : Cal P w K mg base x k ps sp' := by
  obtain ⟨f, fd, g, r⟩ := G.ex
  exact ⟨f, fd, g.imp h, r⟩
def sp_takeO : SpD := fun ds S Q _ => match ds with
  | [.ref b, .int many] => ∃ (l : Addr) (z : Int) (ns : List Int), S b = some (.lst [.ref l, .int z]) ∧ S l = some (.lst (ns.map D.int)) ∧ b ≠ l ∧ 0 ≤ z ∧ z < 2147483647 ∧ ns.length ≤ 63 ∧ 0 < many ∧ many.natAbs.log2 < 9000 ∧
      ∀ (k z' : Int) (ns' : List Int), 0 ≤ k → k < many → 0 ≤ z' → z' < 2147483647 → ns'.length ≤ 63 → Q (.int k) (sup (sup S b (.lst [.ref l, .int z'])) l (.lst (ns'.map D.int)))
  | _ => False
/-- a draw below many -/
def sp_take : SpD := fun ds S Q _ => match ds with
  | [.ref b, .int many] => S b = some .box ∧ (0 < many ∧ many.natAbs.log2 < 9000) ∧ ∀ k : Int, 0 ≤ k → k < many → Q (.int k) S
  | _ => False
theorem take_close {P : Program} {w : World} {mg : Str → Option Value} {base : Heap} {x : Str} {k : Nat} {ps : List Str} (G : Cal P w K mg base x k ps sp_takeO) : Cal P w K mg base x k ps sp_take := G.imp fun vs H Q E ⟨ds, S, F, QD, ED, r, m, h, kq, kx⟩ => by
  unfold sp_take at h
  split at h
  · rename_i b many
    obtain ⟨eb, ⟨m0, ml⟩, h⟩ := h
    obtain ⟨l, z, ns, ne, sl, z0, z1, hn, m1, f1⟩ := box_open m eb
    have fl : F l = some b ∨ Nw S F H l := by
      by_cases q : F l = none
      · refine .inr (f1.st l ?_)
        rw [sup_same]; simp
      · exact .inr (.inr (.inl q))
    have nw : Nw S F H l := f1.st l (by rw [sup_same]; simp)
    refine ⟨_, _, _, fun d S' => ∃ (k z' : Int) (ns' : List Int), d = .int k ∧ 0 ≤ z' ∧ z' < 2147483647 ∧ ns'.length ≤ 63 ∧ S' = sup (sup (sup (sup S b (.lst [.ref l, .int z])) l (.lst (ns.map D.int))) b (.lst [.ref l, .int z'])) l (.lst (ns'.map D.int)) ∧ QD (.int k) S,
      ED, r, m1, ⟨l, z, ns, by rw [sup_ne ne, sup_same], sup_same, ne, z0, z1, hn, m0, ml, fun k z' ns' k0 k1 z0' z1' hn' => ⟨k, z', ns', rfl, z0', z1', hn', rfl, h k k0 k1⟩⟩, ?_, kx.after f1⟩
    rintro v H' d S' F' rr m' f' ⟨k, z', ns', rfl, z0', z1', hn', e, q⟩
    obtain ⟨m2, f2⟩ := box_close (b := b) (l := l) (z := z') (ns := ns') m' (by rw [e, sup_ne ne, sup_same]) (by rw [e, sup_same]) z0' z1' hn' (f1.trans f') nw
    have es : sup (sdel S' l) b .box = S := by
      funext c
      rw [e]
      unfold sup sdel
      by_cases hc : c = b
      · subst hc; simp [eb]
      · by_cases hl : c = l
        · subst hl; simp [hc, sl]
        · simp [hc, hl]
    rw [es] at m2 f2
    exact kq v H' (.int k) S _ rr m2 f2 q
  · exact h.elim
end
/-! ### loops -/
theorem forW_ind {St : Store → Prop} {g : DG} {b : DS} {DD : DEnds} (I : List DL.D → DSt → Store → Prop) (h0 : ∀ σ S, I [] σ S → St S ∧ DD.nx σ S)
    (h1 : ∀ d ds σ S, I (d :: ds) σ S → (∀ σ S, I ds σ S → forW St g b ds DD σ S) → St S ∧ g d σ S (fun σ1 S1 => b { DD with nx := forW St g b ds DD, ct := forW St g b ds DD, bk := DD.nx } σ1 S1)) : ∀ {ds : List DL.D} {σ : DSt} {S : Store}, I ds σ S → forW St g b ds DD σ S
  | [], σ, S, h => h0 σ S h
  | d :: ds, σ, S, h => h1 d ds σ S h fun σ' S' h' => forW_ind I h0 h1 h'
theorem lcW_ind {St : Store → Prop} {g : DG} {t : DT} {e : DE} {σ : DSt} {Q : List D → Store → Prop} (I : List D → List D → Store → Prop) (h0 : ∀ acc S, I [] acc S → St S ∧ Q acc S)
    (h1 : ∀ d ds acc S, I (d :: ds) acc S → (∀ acc S, I ds acc S → lcW St g t e σ ds acc S Q) → St S ∧ g d σ S (fun σ1 S1 => t σ1 S1 (fun b S2 => if b = true then e σ1 S2 (fun y S3 => acc.length < sizeLine ∧ lcW St g t e σ ds (acc ++ [y]) S3 Q) XF else lcW St g t e σ ds acc S2 Q) XF)) : ∀ {ds acc : List DL.D} {S : Store}, I ds acc S → lcW St g t e σ ds acc S Q
  | [], acc, S, h => h0 acc S h
  | d :: ds, acc, S, h => h1 d ds acc S h fun acc' S' h' => lcW_ind I h0 h1 h'
/-! ### the box is begun -/
def isInts (d : D) (S : Store) (ns : List Int) : Prop := d = .kl (ns.map D.int) ∨ ∃ a, d = .ref a ∧ S a = some (.lst (ns.map D.int))
def sp_begunO : SpD := fun ds S Q _ => match ds with
  | [d] => ∃ ns : List Int, isInts d S ns ∧ ns.length ≤ 63 ∧ ∀ (l b : Addr) (z : Int), S l = none → (sup S l (.lst (ns.map D.int))) b = none → 0 ≤ z → z < 2147483647 → Q (.ref b) (sup (sup S l (.lst (ns.map D.int))) b (.lst [.ref l, .int z]))
  | _ => False
def sp_begun : SpD := fun ds S Q _ => match ds with
  | [d] => ∃ ns : List Int, isInts d S ns ∧ ns.length ≤ 63 ∧ ∀ b : Addr, S b = none → Q (.ref b) (sup S b .box)
  | _ => False
theorem begun_close {K : PySem.W.Frag} {P : Program} {w : World} {mg : Str → Option Value} {base : Heap} {x : Str} {k : Nat} {ps : List Str} (G : Cal P w K mg base x k ps sp_begunO) : Cal P w K mg base x k ps sp_begun := G.imp fun vs H Q E ⟨ds, S, F, QD, ED, r, m, h, kq, kx⟩ => by
  unfold sp_begun at h
  split at h
  · obtain ⟨ns, hi, hn, h⟩ := h
    refine ⟨_, S, F, fun d S' => ∃ (l b : Addr) (z : Int), d = .ref b ∧ S l = none ∧ S b = none ∧ b ≠ l ∧ 0 ≤ z ∧ z < 2147483647 ∧ S' = sup (sup S l (.lst (ns.map D.int))) b (.lst [.ref l, .int z]) ∧ QD (.ref b) (sup S b .box), ED, r, m, ⟨ns, hi, hn, fun l b z hl hb z0 z1 => ?_⟩, ?_, kx⟩
    · have ne : b ≠ l := fun e => by subst e; rw [sup_same] at hb; cases hb
      rw [sup_ne ne] at hb
      exact ⟨l, b, z, rfl, hl, hb, ne, z0, z1, rfl, h b hb⟩
    · rintro v H' d S' F' rr m' f' ⟨l, b, z, rfl, hl, hb, ne, z0, z1, e, q⟩
      have nw : Nw S F H l := f'.st l (by rw [e, sup_ne (fun z => ne z.symm), sup_same]; simp)
      obtain ⟨m2, f2⟩ := box_close (b := b) (l := l) (z := z) (ns := ns) m' (by rw [e, sup_same]) (by rw [e, sup_ne (fun z => ne z.symm), sup_same]) z0 z1 hn f' nw
      have es : sup (sdel S' l) b .box = sup S b .box := by
        funext c
        rw [e]
        unfold sup sdel
        by_cases hc : c = b
        · subst hc; simp
        · by_cases hl' : c = l
          · subst hl'; simp [hc, hl]
          · simp [hc, hl']
      rw [es] at m2 f2
      exact kq v H' (.ref b) _ _ rr m2 f2 q
  · exact h.elim
/-! ### lists, of the store or by value -/
def lsOf (S : Store) : D → Option (List D)
  | .rl xs => some xs
  | .ref a => match S a with | some (.lst xs) => some xs | _ => none
  | _ => none
theorem lsOf_cases {S : Store} {d : D} {xs : List D} (h : lsOf S d = some xs) : d = .rl xs ∨ ∃ a, d = .ref a ∧ S a = some (.lst xs) := by
  unfold lsOf at h
  split at h
  · cases h; exact .inl rfl
  · split at h
    · cases h; exact .inr ⟨_, rfl, by assumption⟩
    · cases h
  · cases h
theorem lsOf_ref {S : Store} {a : Addr} {xs : List D} (h : S a = some (.lst xs)) : lsOf S (.ref a) = some xs := by simp only [lsOf, h]
/-! ### alike -/
def Alk : Nat → Store → D → D → Prop
  | 0, _, _, _ => False
  | n + 1, S, f, d => match d with
    | .non => f = .non
    | .bl b => f = .bl b
    | .int b => f = .int b
    | .str b => f = .str b
    | .tup ys => ∃ xs, f = .tup xs ∧ xs.length = ys.length ∧ xs.length ≤ 1000000000000 ∧ ∀ (i : Nat) (f d : D), xs[i]? = some f → ys[i]? = some d → Alk n S f d
    | .ref a => ∃ xs ys, lsOf S f = some xs ∧ lsOf S (.ref a) = some ys ∧ xs.length = ys.length ∧ xs.length ≤ 1000000000000 ∧ ∀ (i : Nat) (f d : D), xs[i]? = some f → ys[i]? = some d → Alk n S f d
    | .rl ys => ∃ xs, lsOf S f = some xs ∧ xs.length = ys.length ∧ xs.length ≤ 1000000000000 ∧ ∀ (i : Nat) (f d : D), xs[i]? = some f → ys[i]? = some d → Alk n S f d
    | _ => False
def sp_alike (n : Nat) : SpD := fun ds S Q _ => match ds with
  | [f, d] => Alk n S f d ∧ Q (.bl true) S
  | _ => False
theorem Def.calF {P : Program} {w : World} {K : PySem.W.Frag} {mg : Str → Option Value} {base : Heap} {x : Str} {st : Stmt} {ps : List Str} (k : Nat) (G : Def K mg x st ps) : Cal P w K mg base x k ps (fun _ _ _ _ => False) := by
  obtain ⟨f, fd, h1, h2, h3⟩ := G.ex
  refine ⟨f, fd, ⟨fun vs H Q E h => ?_, fun A outer s H args us vs Q E _ _ _ _ h => ?_⟩, h2, h1.kp, h3⟩
  · obtain ⟨ds, S, F, QD, ED, _, _, z, _⟩ := h; exact z.elim
  · obtain ⟨ds, S, F, QD, ED, _, _, z, _⟩ := h; exact z.elim
theorem Cal.impD {P : Program} {w : World} {K : PySem.W.Frag} {mg : Str → Option Value} {base : Heap} {x : Str} {k : Nat} {ps : List Str} {sp sp' : SpD} (G : Cal P w K mg base x k ps sp) (h : ∀ ds S Q E, sp' ds S Q E → sp ds S Q E) : Cal P w K mg base x k ps sp' :=
  G.imp fun vs H Q E ⟨ds, S, F, QD, ED, r, m, z, kq, kx⟩ => ⟨ds, S, F, QD, ED, r, m, h _ _ _ _ z, kq, kx⟩
theorem rngD_cons {lo : Int} {n : Nat} : rngD lo (n + 1) = .int lo :: rngD (lo + 1) n := by
  unfold rngD
  rw [List.range_succ_eq_map, List.map_cons, List.map_map]
  simp
  intro a _
  omega
theorem rngD_zero {lo : Int} : rngD lo 0 = [] := rfl
end DL
/-! ## DL10 -/
namespace DL
open PySem PySem.Spec PyProof.Rows L2 LamX
/-! ### a lambda is made -/
def DStep (H H1 : Hp) (P : Addr) (q : Str) : Prop := ∀ (K : PySem.W.Frag) (S : Store) (F : Own), DL.Mod K H S F → S P = some (.tab q) → DL.Mod K H1 S F ∧ Fm S F H S F H1
theorem sup_id {S : Store} {a : Addr} {o : MO} (h : S a = some o) : sup S a o = S := sup_self h
theorem step_frz {H : Hp} {P f : Addr} {q : Str} {o : HO} (hf : H f = none) : DStep H (upd H f o) P q := fun K S F m _ => ⟨m.laid hf, Fm.laid hf⟩
theorem step_tab {H : Hp} {P c : Addr} {q : Str} {ps more : Array Value} (hP : H P = some (.tbl ps)) (hc : H c = none)
    (ok : ∀ H1 : Hp, H1 P = some (.tbl (ps ++ more)) → (∀ b o, H b = some o → (∀ ps, o ≠ .tbl ps) → H1 b = some o) → H1 c = some (CodeO c q) → TabS H1 P q) : DStep H (upd (upd H P (.tbl (ps ++ more))) c (CodeO c q)) P q := fun K S F m e => by
  have nPc : P ≠ c := ne_of_none hP hc
  have eq : upd (upd H P (.tbl (ps ++ more))) c (CodeO c q) = upd (upd H c (CodeO c q)) P (.tbl (ps ++ more)) := by
    funext b
    unfold upd
    by_cases h1 : b = c
    · subst h1; simp [Ne.symm nPc]
    · simp [h1]
  rw [eq]
  have m1 : DL.Mod K (upd H c (CodeO c q)) S F := m.laid hc
  have f1 : Fm S F H S F (upd H c (CodeO c q)) := Fm.laid hc
  have new : ObjR K (upd (upd H c (CodeO c q)) P (.tbl (ps ++ more))) F P (.tab q) := by
    obtain ⟨ps', h1, h2, h3⟩ := ok (upd (upd H c (CodeO c q)) P (.tbl (ps ++ more))) upd_same (fun b o hb ht => by
      rw [upd_ne (fun z => ht ps (Option.some.inj (by rw [← hb, z, hP])).symm.symm), upd_ne (ne_of_none hb hc)]; exact hb) (by rw [upd_ne (Ne.symm nPc), upd_same])
    exact ⟨ps', h1, h2, h3⟩
  have m2 := m1.put e new
  have f2 : Fm S F (upd H c (CodeO c q)) (sup S P (.tab q)) F (upd (upd H c (CodeO c q)) P (.tbl (ps ++ more))) := Fm.put e
  rw [sup_id e] at m2 f2
  exact ⟨m2, f1.trans f2⟩
theorem DStep.trans {H H1 H2 : Hp} {P : Addr} {q : Str} (a : DStep H H1 P q) (b : DStep H1 H2 P q) : DStep H H2 P q := fun K S F m e => by
  obtain ⟨m1, f1⟩ := a K S F m e
  obtain ⟨m2, f2⟩ := b K S F m1 e
  exact ⟨m2, f1.trans f2⟩
section
variable {X : Cx} {pins : List (Addr × Obj)} {σ : L2.St} {H : Hp} {s : Shared}
theorem own_laid {f : Addr} {o : Obj} {h' : Heap} {t' : Nat} (I : Inv X pins σ H s) (hf : s.heap.objs.size ≤ f) (k : ∀ b u, s.heap.get? b = some u → h'.get? b = some u) (e : h'.get? f = some o) : Inv X pins σ (upd H f (.frz o (.own 0))) { s with heap := h', toks := t' } :=
  I.laid k hf ⟨e, o, e⟩
theorem lam_tail {c P : Addr} {q : Str} {params : Arguments} {body : Expr} {scope : Scope} {pos : Pos} {fl : Nat} {dV : Value} {E : Value → Shared → Prop} {Q : Value → Shared → Prop} (I : Inv X pins σ H s) (TB : TabB X.base X.mg c P) (hcode : X.env.code = .ref c)
    (hT : TabS H P q) (hfree : ∀ y ∈ scope.names, y.2 = .free → ∃ c, X.env.cells.lookup y.1 = some c)
    (k : ∀ (f c' : Addr) (doc pm ctv : Value) (H1 : Hp) (s' : Shared), Inv X pins σ H1 s' → DStep H H1 P q → H1 f = some (.frz (lamObj ⟨q, params, body, scope⟩ (cloFrom X.env.cells scope.names []) doc pm ctv dV c') (.own 0)) → H1 c' = some (CodeO c' q) → Q (.ref f) s') :
    wpAny (model X.prog X.w) X.A (makeTail "<lambda>" q params (.expr body) scope X.env dV .none none pos fl) Q E s := by
  obtain ⟨ps, hP, ht, ha⟩ := hT
  have glb := I.mod.glob.keeps I.bk
  have bP := TB.bm.keeps (h' := s.heap) I.bk
  have cH := TB.code.keeps (h' := s.heap) I.bk
  have oP : s.heap.get? P = some { cls := .none, data := .fields ps } := I.hok P _ hP
  cases hc : codeAmong pos ps.toList with
  | none =>
    refine PySem.W.kdv_makeTail (mg := X.mg) (c := c) (P := P) (closure_ok hfree) I.ok.glob glb hcode cH oP ht hc TB.gP bP fun c' ctv doc h' tk hx hge hlt hrec htb => ?_
    obtain ⟨c2, oc, vs, t, e2, hoc, hd, hv⟩ := hrec
    cases e2
    have big : s.heap.objs.size ≤ h'.objs.size := Nat.le_of_lt (Nat.lt_of_le_of_lt hge hlt)
    have fr1 : H c' = none := I.hok.fresh hge
    have eL : (ps ++ #[rawInt pos.line, rawInt pos.col, .ref c']).toList = ps.toList ++ [rawInt pos.line, rawInt pos.col, .ref c'] := by simp
    have I1 := inv_table (t' := tk) (more := #[rawInt pos.line, rawInt pos.col, .ref c']) (h' := h') I hP hx htb hge ⟨oc, vs, t, hoc, hd, hv⟩
    have st1 : DStep H (upd (upd H P (.tbl (ps ++ #[rawInt pos.line, rawInt pos.col, .ref c']))) c' (CodeO c' q)) P q := by
      refine step_tab hP fr1 fun H1 h1 h2 h3 => ⟨_, h1, by rw [eL]; exact PySem.TriplesOk_snoc _ _ _ _ ht, fun p' cv hcv => ?_⟩
      rw [eL] at hcv
      rcases among_app _ ht hcv with z | z
      · obtain ⟨c0, e1, e3⟩ := ha p' cv z
        exact ⟨c0, e1, h2 _ _ e3 codeO_ne⟩
      · exact ⟨c', z, h3⟩
    have fr2 : upd (upd H P (.tbl (ps ++ #[rawInt pos.line, rawInt pos.col, .ref c']))) c' (CodeO c' q) h'.objs.size = none := I1.hok.fresh (Nat.le_refl _)
    have I2 := own_laid (f := h'.objs.size) (o := lamObj ⟨q, params, body, scope⟩ (cloFrom X.env.cells scope.names []) doc ((X.mg "__name__").getD .none) ctv dV c') (h' := h'.push (lamObj ⟨q, params, body, scope⟩ (cloFrom X.env.cells scope.names []) doc ((X.mg "__name__").getD .none) ctv dV c')) (t' := tk) I1 (Nat.le_refl _) (fun b u e => Heap.get?_push_of_some _ e) (Heap.get?_push_size _ rfl)
    exact k _ c' doc _ ctv _ _ I2 (st1.trans (step_frz fr2)) upd_same (by rw [upd_ne (Nat.ne_of_lt hlt), upd_same])
  | some cv =>
    obtain ⟨c', rfl, hco⟩ := ha pos cv hc
    refine PySem.W.kdv_makeTailHit (mg := X.mg) (c := c) (P := P) (closure_ok hfree) I.ok.glob glb hcode cH oP ht hc bP fun ctv doc h' tk hx big => ?_
    have fr2 : H h'.objs.size = none := I.hok.fresh big
    have I2 := own_laid (f := h'.objs.size) (o := lamObj ⟨q, params, body, scope⟩ (cloFrom X.env.cells scope.names []) doc ((X.mg "__name__").getD .none) ctv dV c') (h' := h'.push (lamObj ⟨q, params, body, scope⟩ (cloFrom X.env.cells scope.names []) doc ((X.mg "__name__").getD .none) ctv dV c')) (t' := tk) I big (fun b u e => Heap.get?_push_of_some _ (hx b u e)) (Heap.get?_push_size _ rfl)
    exact k _ c' doc _ ctv _ _ I2 (step_frz fr2) upd_same (by rw [upd_ne (ne_of_none hco fr2)]; exact hco)
end
/-- lambda: .., lambda a=0: .. -/
def wLam (P : Addr) (L : LF) (cells : List (Str × Addr)) : DE := fun _ S Q _ => S P = some (.tab L.qual) ∧ Q (.fn L cells) S
theorem dpe_lam {X : Cx} {W : WX} {params : Arguments} {body : Expr} {scope : Scope} {pos : Pos} {c P : Addr} (TB : TabB X.base X.mg c P) (hcode : X.env.code = .ref c) (hfree : ∀ y ∈ scope.names, y.2 = .free → ∃ c, X.env.cells.lookup y.1 = some c)
    (hkd : params.kw_defaults = []) (hd : params.defaults = [] ∨ ∃ i j p, params.defaults = [.Constant (.int i) j p]) : PEd X W (.Lambda params body scope pos) (wLam P ⟨X.env.qual ++ "<lambda>", params, body, scope⟩ X.env.cells) := by
  refine ⟨fun pins s σ H Q I h => ?_⟩
  obtain ⟨σD, S, F, QD, ED, sl, m, ⟨eP, h⟩, k, kx⟩ := h
  have tb := m.obj _ _ eP
  rcases hd with hd | ⟨i, j, p, hd⟩
  · refine PySem.W.kla_eval (by rw [defaultsOf_eq, hd, hkd]; rfl) ?_
    rw [makeFunction_eq]
    simp only [List.zip_nil_right, List.filterMap_nil, List.isEmpty_nil, if_true, pure_bind]
    refine lam_tail I TB hcode tb hfree fun f c' doc pm ctv H1 s' I1 st hf hc => ?_
    obtain ⟨m1, f1⟩ := st X.K S F m eP
    exact ⟨.ref f, H1, I1, rfl, k (.ref f) H1 (.fn ⟨X.env.qual ++ "<lambda>", params, body, scope⟩ X.env.cells) S F ⟨f, c', doc, pm, ctv, .none, rfl, hf, hc, .inl ⟨hd, rfl⟩, I.ok.inj⟩ m1 f1 h⟩
  · refine PySem.W.kdv_lam (by rw [hd]; rfl) hkd ?_
    rw [hd]
    refine PySem.W.kdv_all1 (PySem.wpAny_mono ((pe_int (X := X) (i := i) (j := j) (pos := p)).run pins s σ H (fun v H1 => v = .int i ∧ H1 = H) I ⟨rfl, rfl⟩) (fun v s1 hq => ?_) fun _ _ z => ?_)
    · obtain ⟨w, H1, I1, rv, rfl, rfl⟩ := hq
      refine PySem.W.kdv_all0 ?_
      rw [makeFunction_eq]
      simp only [List.zip_nil_right, List.filterMap_nil, List.isEmpty_nil, List.isEmpty_cons, Bool.false_eq_true, if_false, if_true, pure_bind]
      refine wpAny_bind (wpAny_newTextTuple ?_)
      have nT : H1 s1.heap.objs.size = none := I1.hok.fresh (Nat.le_refl _)
      have I2 : Inv X pins σ (upd H1 s1.heap.objs.size (.tup [.int i])) { s1 with heap := s1.heap.push { cls := .type "tuple", data := .seq #[v] }, toks := s1.toks } :=
        I1.laid (fun b u e => Heap.get?_push_of_some _ e) (Nat.le_refl _) ⟨(show 1 ≤ sizeLine by decide), [v], .cons rv .nil, ⟨_, Heap.get?_push_size _ rfl, rfl, 0, rfl⟩⟩
      have eP2 : TabS (upd H1 s1.heap.objs.size (.tup [.int i])) P (X.env.qual ++ "<lambda>") := TabS.ext tb fun b o e => by rw [upd_ne (ne_of_none e nT)]; exact e
      refine lam_tail I2 TB hcode eP2 hfree fun f c' doc pm ctv H2 s' I3 st hf hc => ?_
      have m2 : DL.Mod X.K (upd H1 s1.heap.objs.size (.tup [.int i])) S F := m.laid nT
      have f2 : Fm S F H1 S F (upd H1 s1.heap.objs.size (.tup [.int i])) := Fm.laid nT
      obtain ⟨m3, f3⟩ := st X.K S F m2 eP
      have hT : Rd H2 s1.heap.objs.size (.tup [.int i]) := (f3.kp m2).tup _ _ (.inl upd_same)
      exact ⟨.ref f, H2, I3, rfl, k (.ref f) H2 (.fn ⟨X.env.qual ++ "<lambda>", params, body, scope⟩ X.env.cells) S F ⟨f, c', doc, pm, ctv, _, rfl, hf, hc, .inr ⟨by rw [hd]; rfl, _, _, rfl, hT⟩, I.ok.inj⟩ m3 (f2.trans f3) h⟩
    · exact z
end DL
/-! ## DL11 -/
namespace DL
open PySem PySem.Spec PyProof.Rows L2 LamX
/-! ### cells, known for a while -/
abbrev Cs := Addr → Option Obj
def addC (H : Hp) (C : Cs) : Hp := fun a => match C a with | some o => some (.frz o (.own 0)) | none => H a
def delC (H : Hp) (C : Cs) : Hp := fun a => match C a with | some _ => none | none => H a
theorem addC_in {H : Hp} {C : Cs} {a : Addr} {o : Obj} (h : C a = some o) : addC H C a = some (.frz o (.own 0)) := by unfold addC; rw [h]
theorem addC_out {H : Hp} {C : Cs} {a : Addr} (h : C a = none) : addC H C a = H a := by unfold addC; rw [h]
theorem delC_in {H : Hp} {C : Cs} {a : Addr} {o : Obj} (h : C a = some o) : delC H C a = none := by unfold delC; rw [h]
theorem delC_out {H : Hp} {C : Cs} {a : Addr} (h : C a = none) : delC H C a = H a := by unfold delC; rw [h]
theorem delC_some {H : Hp} {C : Cs} {a : Addr} {o : HO} (h : delC H C a = some o) : C a = none ∧ H a = some o := by
  cases e : C a with
  | none => rw [delC_out e] at h; exact ⟨rfl, h⟩
  | some u => rw [delC_in e] at h; cases h
theorem out_of {C : Cs} {a : Addr} (h : ∀ o, C a ≠ some o) : C a = none := by
  cases e : C a with
  | none => rfl
  | some o => exact absurd e (h o)
section
variable {P : Program} {w : World} {H H' : Hp} {C : Cs} {h h' B : Heap} {fs : List Addr}
/-- the sealed cells in H: they stand there, untracked -/
structure Sl (C : Cs) (H : Hp) (h : Heap) (fs : List Addr) : Prop where
  at_ : ∀ a o, C a = some o → h.get? a = some o ∧ H a = none ∧ a ∉ fs
structure Us (C : Cs) (H : Hp) (fs : List Addr) : Prop where
  at_ : ∀ a o, C a = some o → H a = some (.frz o (.own 0)) ∧ a ∉ fs
theorem HOk.add (ok : HOk P w H h) (c : ∀ a o, C a = some o → h.get? a = some o ∧ H a = none) : HOk P w (addC H C) h := fun a u e => by
  cases q : C a with
  | some o =>
    rw [addC_in q] at e
    cases e
    exact ⟨(c a o q).1, o, (c a o q).1⟩
  | none =>
    rw [addC_out q] at e
    have keepH : ∀ b v, H b = some v → addC H C b = some v := fun b v z => by rw [addC_out (out_of fun o y => by rw [(c b o y).2] at z; cases z)]; exact z
    exact (ok a u e).stay (fun _ _ _ z => z) (fun b z => keepH b _ z) fun b xs z => keepH b _ z
theorem HOk.del (ok : HOk P w H h) (c : ∀ a o, C a = some o → H a = some (.frz o (.own 0))) : HOk P w (delC H C) h := fun a u e => by
  obtain ⟨_, e⟩ := delC_some e
  have keepH : ∀ b v, (∀ o w, v ≠ .frz o w) → H b = some v → delC H C b = some v := fun b v nf z => by
    rw [delC_out (out_of fun o y => nf o (.own 0) (Option.some.inj (z.symm.trans (c b o y))))]; exact z
  exact (ok a u e).stay (fun _ _ _ z => z) (fun b z => keepH b _ (fun o w y => by cases y) z) fun b xs z => keepH b _ (fun o w y => by cases y) z
theorem Sl.un (c : Sl C H h fs) (u : Un fs [] (addC H C) H' h h') (ok : HOk P w H' h') : Un fs [] H (delC H' C) h h' := by
  have fz : ∀ a o, C a = some o → H' a = some (.frz o (.own 0)) := fun a o q => u.frzs a o _ (addC_in q)
  have up : ∀ a v, H a = some v → addC H C a = some v ∧ C a = none := fun a v z => by
    have n : C a = none := out_of fun o y => by rw [(c.at_ a o y).2.1] at z; cases z
    exact ⟨by rw [addC_out n]; exact z, n⟩
  refine ⟨fun b o e n hb hx => ?_, fun b o e n hb hx => ?_, fun b o e n hx => ?_, fun b o e hx => u.there b o e hx, fun b xs e => ?_, fun b o v e => ?_, fun b ps e => ?_⟩
  · cases q : C b with
    | none => exact u.keep b o e (by rw [addC_out q]; exact n) hb hx
    | some ob =>
      have e1 := (c.at_ b ob q).1
      rw [e] at e1
      cases e1
      exact (ok b _ (fz b o q)).1
  · have q : C b = none := out_of fun o y => (c.at_ b o y).2.2 hb
    exact u.slot b o e (by rw [addC_out q]; exact n) hb hx
  · cases q : C b with
    | none => rw [delC_out q]; exact u.free b o e (by rw [addC_out q]; exact n) hx
    | some ob => exact delC_in q
  · obtain ⟨a, n⟩ := up b _ e
    rw [delC_out n]; exact u.tups b xs a
  · obtain ⟨a, n⟩ := up b _ e
    rw [delC_out n]; exact u.frzs b o v a
  · obtain ⟨a, n⟩ := up b _ e
    rw [delC_out n]; exact u.tbls b ps a
theorem Us.un (c : Us C H fs) (u : Un fs [] (delC H C) H' h h') : Un fs [] H (addC H' C) h h' := by
  have un0 : ∀ b, H b = none → C b = none := fun b n => out_of fun o y => by rw [(c.at_ b o y).1] at n; cases n
  have dn : ∀ b v, (∀ o w, v ≠ .frz o w) → H b = some v → C b = none := fun b v nf z => out_of fun o y => nf o (.own 0) (Option.some.inj (z.symm.trans (c.at_ b o y).1))
  refine ⟨fun b o e n hb hx => u.keep b o e (by rw [delC_out (un0 b n)]; exact n) hb hx, fun b o e n hb hx => u.slot b o e (by rw [delC_out (un0 b n)]; exact n) hb hx, fun b o e n hx => ?_, fun b o e hx => u.there b o e hx, fun b xs e => ?_, fun b o v e => ?_, fun b ps e => ?_⟩
  · rw [addC_out (un0 b n)]; exact u.free b o e (by rw [delC_out (un0 b n)]; exact n) hx
  · have n := dn b _ (fun o w y => by cases y) e
    rw [addC_out n]; exact u.tups b xs (by rw [delC_out n]; exact e)
  · cases q : C b with
    | none => rw [addC_out q]; exact u.frzs b o v (by rw [delC_out q]; exact e)
    | some ob =>
      have e1 := (c.at_ b ob q).1
      rw [e] at e1
      rw [addC_in q, ← e1]
  · have n := dn b _ (fun o w y => by cases y) e
    rw [addC_out n]; exact u.tbls b ps (by rw [delC_out n]; exact e)
theorem Sl.ub (c : Sl C H h fs) (u : UB fs (addC H C) H' h B h') (ok : HOk P w H' B) : UB fs H (delC H' C) h B h' := by
  have fz : ∀ a o, C a = some o → H' a = some (.frz o (.own 0)) := fun a o q => u.frzs a o _ (addC_in q)
  have up : ∀ a v, H a = some v → addC H C a = some v ∧ C a = none := fun a v z => by
    have n : C a = none := out_of fun o y => by rw [(c.at_ a o y).2.1] at z; cases z
    exact ⟨by rw [addC_out n]; exact z, n⟩
  refine ⟨fun b o e n hb => ?_, u.slot, fun b o e n => ?_, u.there, fun b xs e => ?_, fun b o v e => ?_, fun b ps e => ?_⟩
  · cases q : C b with
    | none => exact u.keep b o e (by rw [addC_out q]; exact n) hb
    | some ob =>
      have e1 := (c.at_ b ob q).1
      rw [e] at e1
      cases e1
      exact (ok b _ (fz b o q)).1
  · cases q : C b with
    | none => rw [delC_out q]; exact u.free b o e (by rw [addC_out q]; exact n)
    | some ob => exact delC_in q
  · obtain ⟨a, n⟩ := up b _ e
    rw [delC_out n]; exact u.tups b xs a
  · obtain ⟨a, n⟩ := up b _ e
    rw [delC_out n]; exact u.frzs b o v a
  · obtain ⟨a, n⟩ := up b _ e
    rw [delC_out n]; exact u.tbls b ps a
theorem Us.ub (c : Us C H fs) (u : UB fs (delC H C) H' h B h') : UB fs H (addC H' C) h B h' := by
  have un0 : ∀ b, H b = none → C b = none := fun b n => out_of fun o y => by rw [(c.at_ b o y).1] at n; cases n
  have dn : ∀ b v, (∀ o w, v ≠ .frz o w) → H b = some v → C b = none := fun b v nf z => out_of fun o y => nf o (.own 0) (Option.some.inj (z.symm.trans (c.at_ b o y).1))
  refine ⟨fun b o e n hb => u.keep b o e (by rw [delC_out (un0 b n)]; exact n) hb, u.slot, fun b o e n => ?_, u.there, fun b xs e => ?_, fun b o v e => ?_, fun b ps e => ?_⟩
  · rw [addC_out (un0 b n)]; exact u.free b o e (by rw [delC_out (un0 b n)]; exact n)
  · have n := dn b _ (fun o w y => by cases y) e
    rw [addC_out n]; exact u.tups b xs (by rw [delC_out n]; exact e)
  · cases q : C b with
    | none => rw [addC_out q]; exact u.frzs b o v (by rw [delC_out q]; exact e)
    | some ob =>
      have e1 := (c.at_ b ob q).1
      rw [e] at e1
      rw [addC_in q, ← e1]
  · have n := dn b _ (fun o w y => by cases y) e
    rw [addC_out n]; exact u.tbls b ps (by rw [delC_out n]; exact e)
/-- behind a call with the cells known: they are forgotten -/
theorem Sl.ce {outer : List Env} {s s' : Shared} {Q Q' : VK} {u : Value} (c : Sl C H s.heap (frs outer)) (x : CE outer P w (addC H C) s Q u s')
    (k : ∀ v H', (∀ a o, C a = some o → H' a = some (.frz o (.own 0))) → Q v H' → Q' v (delC H' C)) : CE outer P w H s Q' u s' := by
  obtain ⟨v, H', os, bare, un, hok, r, q⟩ := x
  have fz : ∀ a o, C a = some o → H' a = some (.frz o (.own 0)) := fun a o z => un.frzs a o _ (addC_in z)
  exact ⟨v, delC H' C, os, bare, c.un un hok, HOk.del hok fz, r, k v H' fz q⟩
theorem Sl.cx {outer : List Env} {s s' : Shared} {E E' : XK} {u : Value} (c : Sl C H s.heap (frs outer)) (x : L2.CX P w outer (addC H C) s E u s')
    (k : ∀ cls d H', (∀ a o, C a = some o → H' a = some (.frz o (.own 0))) → E cls d H' → E' cls d (delC H' C)) : L2.CX P w outer H s E' u s' := by
  obtain ⟨a, B, H', cls, d, e, fly, hok, ub, ha, os, bare, q⟩ := x
  have fz : ∀ a o, C a = some o → H' a = some (.frz o (.own 0)) := fun a o z => ub.frzs a o _ (addC_in z)
  refine ⟨a, B, delC H' C, cls, d, e, fly, HOk.del hok fz, c.ub ub hok, ?_, os, bare, k cls d H' fz q⟩
  cases q : C a with
  | none => rw [delC_out q]; exact ha
  | some o => exact delC_in q
theorem Us.ce {outer : List Env} {s s' : Shared} {Q Q' : VK} {u : Value} (c : Us C H (frs outer)) (hok : HOk P w H s.heap) (x : CE outer P w (delC H C) s Q u s')
    (k : ∀ v H', (∀ a o, C a = some o → H' a = none) → Q v H' → Q' v (addC H' C)) : CE outer P w H s Q' u s' := by
  obtain ⟨v, H', os, bare, un, hok', r, q⟩ := x
  have st : ∀ a o, C a = some o → s.heap.get? a = some o := fun a o z => (hok a _ (c.at_ a o z).1).1
  have nn : ∀ a o, C a = some o → H' a = none := fun a o z => un.free a o (st a o z) (delC_in z) (by simp)
  exact ⟨v, addC H' C, os, bare, c.un un, HOk.add hok' (fun a o z => ⟨un.keep a o (st a o z) (delC_in z) (c.at_ a o z).2 (by simp), nn a o z⟩), r, k v H' nn q⟩
theorem Us.cx {outer : List Env} {s s' : Shared} {E E' : XK} {u : Value} (c : Us C H (frs outer)) (hok : HOk P w H s.heap) (x : L2.CX P w outer (delC H C) s E u s')
    (k : ∀ cls d H', (∀ a o, C a = some o → H' a = none) → E cls d H' → E' cls d (addC H' C)) : L2.CX P w outer H s E' u s' := by
  obtain ⟨a, B, H', cls, d, e, fly, hok', ub, ha, os, bare, q⟩ := x
  have st : ∀ a o, C a = some o → s.heap.get? a = some o := fun a o z => (hok a _ (c.at_ a o z).1).1
  have nn : ∀ a o, C a = some o → H' a = none := fun a o z => ub.free a o (st a o z) (delC_in z)
  have inB : ∀ a o, C a = some o → B.get? a = some o := fun a o z => ub.keep a o (st a o z) (delC_in z) (c.at_ a o z).2
  refine ⟨a, B, addC H' C, cls, d, e, fly, HOk.add hok' (fun a o z => ⟨inB a o z, nn a o z⟩), c.ub ub, ?_, os, bare, k cls d H' nn q⟩
  rw [addC_out (out_of fun o z => by have y := inB a o z; rw [fly.2.1] at y; cases y)]
  exact ha
end
/-! ### values without sealed lambdas -/
mutual
def noS : D → Bool
  | .fnS _ _ _ => false
  | .fn _ _ => false
  | .tup ds => noSs ds
  | .rl ds => noSs ds
  | .kl ds => noSs ds
  | _ => true
def noSs : List D → Bool
  | [] => true
  | d :: ds => noS d && noSs ds
end
def noSf {α : Type} (fs : List (α × D)) : Bool := fs.all fun p => noS p.2
def noSo1 : MO → Bool
  | .lst ds => noSs ds
  | .dic kvs => noSf kvs
  | .dit kvs => noSf kvs
  | .ins _ fs => noSf fs
  | .xdo fs => noSf fs
  | _ => true
def noSo : MO → Bool
  | .lst ds => noSs ds
  | .dic kvs => noSf kvs
  | .dit kvs => noSf kvs
  | .ins _ fs => noSf fs
  | .xdo fs => noSf fs
  | .own _ fs sub => noSf fs && sub.all fun p => noSo1 p.2
  | _ => true
/-- H' tells what H tells, but for cells -/
structure KpC (H H' : Hp) : Prop where
  tup : ∀ p xs, Rd H p (.tup xs) → Rd H' p (.tup xs)
  code : ∀ c q, H c = some (CodeO c q) → H' c = some (CodeO c q)
  fz : ∀ a o, (∀ v, o.data ≠ .cell v) → Fz H a o → Fz H' a o
  fl : ∀ p o xs, H p = some (.frz o (.lst xs)) → H' p = some (.frz o (.lst xs))
theorem codeO_frz {c : Addr} {q : Str} {o : Obj} {u : HO} : CodeO c q ≠ .frz o u := fun z => by
  unfold CodeO at z
  cases z
theorem delC_eq {H : Hp} {C : Cs} (c : ∀ a o, C a = some o → H a = some (.frz o (.own 0))) {a : Addr} {u : HO} (n : ∀ o, u ≠ .frz o (.own 0)) (e : H a = some u) : delC H C a = some u := by
  rw [delC_out (out_of fun o y => n o (Option.some.inj (e.symm.trans (c a o y))))]; exact e
theorem KpC.del {H : Hp} {C : Cs} (c : ∀ a o, C a = some o → H a = some (.frz o (.own 0))) (cell : ∀ a o, C a = some o → ∃ v, o.data = .cell v) : KpC H (delC H C) where
  tup := fun p xs h => by
    rcases h with h | ⟨o, h⟩
    · exact .inl (delC_eq c (fun _ z => nomatch z) h)
    · exact .inr ⟨o, delC_eq c (fun o z => by cases z) h⟩
  code := fun a q h => delC_eq c (fun o => codeO_frz) h
  fz := fun a o n h => by
    show delC H C a = some (.frz o (.own 0))
    have h' : H a = some (.frz o (.own 0)) := h
    rw [delC_out (out_of fun u y => by
      obtain ⟨v, hv⟩ := cell a u y
      have e := h'.symm.trans (c a u y)
      have e2 : o = u := by
        have e3 := Option.some.inj e
        cases e3
        rfl
      exact n v (by rw [e2]; exact hv))]
    exact h'
  fl := fun p o xs h => delC_eq c (fun o z => by cases z) h
theorem Kp.add {H : Hp} {C : Cs} (c : ∀ a o, C a = some o → H a = none) : Kp H (addC H C) := by
  have k : ∀ a u, H a = some u → addC H C a = some u := fun a u e => by rw [addC_out (out_of fun o y => by rw [c a o y] at e; cases e)]; exact e
  refine ⟨fun p xs h => ?_, fun p q h => k _ _ h, fun a o h => k _ _ h, fun p o xs h => k _ _ h⟩
  rcases h with h | ⟨o, h⟩
  · exact .inl (k _ _ h)
  · exact .inr ⟨o, k _ _ h⟩
section
variable {K : PySem.W.Frag} {H H' : Hp} {S S' : Store} {F F' : Own} {C : Cs}
theorem FnR.kpC (k : KpC H H') {L : LF} {cells : List (Str × Addr)} {v : V} (h : FnR K H L cells v) : FnR K H' L cells v := by
  obtain ⟨f, c, doc, pm, ctv, dV, e, h1, h2, h3, inj⟩ := h
  refine ⟨f, c, doc, pm, ctv, dV, e, k.fz _ _ (fun v z => by cases z) h1, k.code _ _ h2, ?_, inj⟩
  rcases h3 with h3 | ⟨h3, T, w, e2, h4⟩
  · exact .inl h3
  · exact .inr ⟨h3, T, w, e2, k.tup _ _ h4⟩
mutual
theorem Rep.kpC (k : KpC H H') : ∀ (d : D) (v : V), noS d = true → Rep K H d v → Rep K H' d v
  | .non, _, _, h => h
  | .bl _, _, _, h => h
  | .int _, _, _, h => h
  | .str _, _, _, h => h
  | .ref _, _, _, h => h
  | .fn _ _, _, n, _ => by cases n
  | .fnS _ _ _, _, n, _ => by cases n
  | .tup ds, _, n, ⟨p, vs, e, t, r⟩ => ⟨p, vs, e, t.elim (fun t => .inl (k.tup _ _ t)) .inr, Reps.kpC k ds vs n r⟩
  | .rl ds, _, n, ⟨p, vs, e, ⟨o, t⟩, r⟩ => ⟨p, vs, e, ⟨o, k.fl _ _ _ t⟩, Reps.kpC k ds vs n r⟩
  | .kl ds, _, n, ⟨p, vs, e, t, r⟩ => ⟨p, vs, e, t.elim (fun ⟨o, t⟩ => .inl ⟨o, k.fl _ _ _ t⟩) .inr, Reps.kpC k ds vs n r⟩
theorem Reps.kpC (k : KpC H H') : ∀ (ds : List D) (vs : List V), noSs ds = true → Reps K H ds vs → Reps K H' ds vs
  | [], _, _, h => h
  | d :: ds, _, n, ⟨v, vr, e, h, r⟩ => by
    have n' : (noS d && noSs ds) = true := n
    rw [Bool.and_eq_true] at n'
    exact ⟨v, vr, e, Rep.kpC k d v n'.1 h, Reps.kpC k ds vr n'.2 r⟩
end
theorem RepF.kpC {α : Type} (k : KpC H H') {fs : List (α × D)} {vs : List (α × V)} (n : noSf fs = true) (h : RepF K H fs vs) : RepF K H' fs vs := by
  unfold RepF at h ⊢
  induction h with
  | nil => exact .nil
  | @cons p q _ _ r t ih =>
    unfold noSf at n ih
    rw [List.all_cons, Bool.and_eq_true] at n
    exact .cons ⟨r.1, Rep.kpC k _ _ n.1 r.2⟩ (ih n.2)
theorem RepF.kp' {α : Type} (k : Kp H H') {fs : List (α × D)} {vs : List (α × V)} (h : RepF K H fs vs) : RepF K H' fs vs := RepF.kp k h
theorem ObjF.same {a : Addr} {u : MO} (k : KpC H H') (e : ∀ b v, H b = some v → (∀ o, v ≠ .frz o (.own 0)) → H' b = some v) (n : noSo1 u = true) (h : ObjF K H a u) : ObjF K H' a u := by
  cases u with
  | lst ds => obtain ⟨vs, h1, r⟩ := h; exact ⟨vs, e _ _ h1 (fun _ z => nomatch z), Reps.kpC k _ _ n r⟩
  | dic ds => obtain ⟨vs, h1, r⟩ := h; exact ⟨vs, e _ _ h1 (fun _ z => nomatch z), RepF.kpC k n r⟩
  | dit ds => obtain ⟨vs, h1, r⟩ := h; exact ⟨vs, e _ _ h1 (fun _ z => nomatch z), RepF.kpC k n r⟩
  | ins C fs => obtain ⟨dx, vs, h1, r⟩ := h; exact ⟨dx, vs, e _ _ h1 (fun _ z => nomatch z), RepF.kpC k n r⟩
  | _ => exact h.elim
/-- all objects stand where they stood -/
theorem ObjR.same {a : Addr} {u : MO} (k : KpC H H') (e : ∀ b v, H b = some v → (∀ o, v ≠ .frz o (.own 0)) → H' b = some v) (n : noSo u = true) (h : ObjR K H F a u) : ObjR K H' F a u := by
  cases u with
  | lst ds => obtain ⟨vs, h1, r⟩ := h; exact ⟨vs, e _ _ h1 (fun _ z => nomatch z), Reps.kpC k _ _ n r⟩
  | dic ds => obtain ⟨vs, h1, r⟩ := h; exact ⟨vs, e _ _ h1 (fun _ z => nomatch z), RepF.kpC k n r⟩
  | dit ds => obtain ⟨vs, h1, r⟩ := h; exact ⟨vs, e _ _ h1 (fun _ z => nomatch z), RepF.kpC k n r⟩
  | ins C fs => obtain ⟨dx, vs, h1, r⟩ := h; exact ⟨dx, vs, e _ _ h1 (fun _ z => nomatch z), RepF.kpC k n r⟩
  | xdo fs => obtain ⟨vs, h1, r⟩ := h; exact ⟨vs, e _ _ h1 (fun _ z => nomatch z), RepF.kpC k n r⟩
  | box => obtain ⟨l, z, ns, e1, e2, r⟩ := h; exact ⟨l, z, ns, e _ _ e1 (fun _ z => nomatch z), e _ _ e2 (fun _ z => nomatch z), r⟩
  | tab q =>
    obtain ⟨ps, e1, r1, r2⟩ := h
    refine ⟨ps, e _ _ e1 (fun _ z => nomatch z), r1, fun pos cv hc => ?_⟩
    obtain ⟨c, z1, z2⟩ := r2 pos cv hc
    exact ⟨c, z1, k.code _ _ z2⟩
  | own C fs sub =>
    obtain ⟨h1, nd, h2⟩ := h
    have n' : (noSf fs && sub.all fun p => noSo1 p.2) = true := n
    rw [Bool.and_eq_true, List.all_eq_true] at n'
    exact ⟨ObjF.same k e n'.1 h1, nd, fun l o hm => ⟨ObjF.same k e (n'.2 (l, o) hm) (h2 l o hm).1, (h2 l o hm).2⟩⟩
theorem Kp.toC (k : Kp H H') : KpC H H' := ⟨k.tup, k.code, fun a o _ h => k.fz a o h, k.fl⟩
theorem NoT.of_same {a : Addr} (n : NoT H a) (e : H' a = H a) : NoT H' a where
  there := by rw [e]; exact n.there
  tup := fun xs r => n.tup xs (by
    rcases r with r | ⟨o, r⟩
    · exact .inl (by rw [← e]; exact r)
    · exact .inr ⟨o, by rw [← e]; exact r⟩)
  code := fun q r => n.code q (by rw [← e]; exact r)
  fz := fun q r => n.fz q (by rw [← e]; exact r)
  fl := fun q xs r => n.fl q xs (by rw [← e]; exact r)
def NoSS (S : Store) : Prop := ∀ a o, S a = some o → noSo o = true
def Sub (S0 S : Store) : Prop := ∀ a o, S0 a = some o → S a = some o
/-- the cells are forgotten -/
theorem DL.Mod.del (m : DL.Mod K H S F) (n : NoSS S) (c : ∀ a o, C a = some o → H a = some (.frz o (.own 0))) (cell : ∀ a o, C a = some o → ∃ v, o.data = .cell v) : DL.Mod K (delC H C) S F := by
  refine ⟨fun a o e => (m.obj a o e).same (KpC.del c cell) (fun b v z nz => delC_eq c nz z) (n a o e), fun l a e => ⟨(m.hid l a e).1, ?_⟩⟩
  have nt := (m.hid l a e).2
  exact nt.of_same (delC_out (out_of fun o y => nt.fz o (c l o y)))
theorem addC_eq {a : Addr} {u : HO} (c : ∀ a o, C a = some o → H a = none) (e : H a = some u) : addC H C a = some u := by
  rw [addC_out (out_of fun o y => by rw [c a o y] at e; cases e)]; exact e
theorem ObjF.kpS {a : Addr} {u : MO} (k : Kp H H') (e : ∀ b v, H b = some v → H' b = some v) (h : ObjF K H a u) : ObjF K H' a u := by
  cases u with
  | lst ds => obtain ⟨vs, h1, r⟩ := h; exact ⟨vs, e _ _ h1, Reps.kp k _ _ r⟩
  | dic ds => obtain ⟨vs, h1, r⟩ := h; exact ⟨vs, e _ _ h1, RepF.kp k r⟩
  | dit ds => obtain ⟨vs, h1, r⟩ := h; exact ⟨vs, e _ _ h1, RepF.kp k r⟩
  | ins C fs => obtain ⟨dx, vs, h1, r⟩ := h; exact ⟨dx, vs, e _ _ h1, RepF.kp k r⟩
  | _ => exact h.elim
theorem ObjR.kpS {a : Addr} {u : MO} (k : Kp H H') (e : ∀ b v, H b = some v → H' b = some v) (h : ObjR K H F a u) : ObjR K H' F a u := by
  cases u with
  | lst ds => obtain ⟨vs, h1, r⟩ := h; exact ⟨vs, e _ _ h1, Reps.kp k _ _ r⟩
  | dic ds => obtain ⟨vs, h1, r⟩ := h; exact ⟨vs, e _ _ h1, RepF.kp k r⟩
  | dit ds => obtain ⟨vs, h1, r⟩ := h; exact ⟨vs, e _ _ h1, RepF.kp k r⟩
  | ins C fs => obtain ⟨dx, vs, h1, r⟩ := h; exact ⟨dx, vs, e _ _ h1, RepF.kp k r⟩
  | xdo fs => obtain ⟨vs, h1, r⟩ := h; exact ⟨vs, e _ _ h1, RepF.kp k r⟩
  | box => obtain ⟨l, z, ns, e1, e2, r⟩ := h; exact ⟨l, z, ns, e _ _ e1, e _ _ e2, r⟩
  | tab q =>
    obtain ⟨ps, e1, r1, r2⟩ := h
    refine ⟨ps, e _ _ e1, r1, fun pos cv hc => ?_⟩
    obtain ⟨c, z1, z2⟩ := r2 pos cv hc
    exact ⟨c, z1, k.code _ _ z2⟩
  | own C fs sub =>
    obtain ⟨h1, nd, h2⟩ := h
    exact ⟨ObjF.kpS k e h1, nd, fun l o hm => ⟨ObjF.kpS k e (h2 l o hm).1, (h2 l o hm).2⟩⟩
theorem DL.Mod.add (m : DL.Mod K H S F) (c : ∀ a o, C a = some o → H a = none) : DL.Mod K (addC H C) S F := by
  refine ⟨fun a o e => (m.obj a o e).kpS (Kp.add c) (fun b v z => addC_eq c z), fun l a e => ⟨(m.hid l a e).1, ?_⟩⟩
  have nt := (m.hid l a e).2
  exact nt.of_same (addC_out (out_of fun o y => nt.there (c l o y)))
end
end DL
/-! ## DL12 -/
namespace DL
open PySem PySem.Spec PyProof.Rows L2 LamX
/-! ### a part of the store -/
structure Part (S0 S : Store) : Prop where
  sub : ∀ a o, S0 a = some o → S a = some o
  box : ∀ a, S a = some .box → S0 a = some .box
  own : ∀ a C fs sub, S a = some (.own C fs sub) → S0 a ≠ none
def joinS (S S0 S' : Store) : Store := fun a => match S0 a, S a with | none, some o => some o | _, _ => S' a
theorem joinS_in {S S0 S' : Store} {a : Addr} {o : MO} (h : S0 a = some o) : joinS S S0 S' a = S' a := by unfold joinS; rw [h]
theorem joinS_out {S S0 S' : Store} {a : Addr} (h : S a = none) : joinS S S0 S' a = S' a := by
  unfold joinS; rw [h]; cases S0 a <;> rfl
theorem joinS_drop {S S0 S' : Store} {a : Addr} {o : MO} (h0 : S0 a = none) (h : S a = some o) : joinS S S0 S' a = some o := by unfold joinS; rw [h0, h]
theorem joinS_cases {S S0 S' : Store} (a : Addr) : (∃ o, S0 a = none ∧ S a = some o ∧ joinS S S0 S' a = some o) ∨ ((S0 a ≠ none ∨ S a = none) ∧ joinS S S0 S' a = S' a) := by
  cases h0 : S0 a with
  | some o => exact .inr ⟨.inl (by simp), joinS_in h0⟩
  | none =>
    cases h : S a with
    | none => exact .inr ⟨.inr rfl, joinS_out h⟩
    | some o => exact .inl ⟨o, rfl, rfl, joinS_drop h0 h⟩
theorem joinS_same {S S0 : Store} (p : Part S0 S) : joinS S S0 S0 = S := by
  funext a
  rcases joinS_cases (S := S) (S0 := S0) (S' := S0) a with ⟨o, _, h, e⟩ | ⟨h, e⟩
  · rw [e, h]
  · rw [e]
    cases q : S0 a with
    | some o => rw [p.sub a o q]
    | none => exact (h.resolve_left (fun z => z q)).symm
theorem joinS_self {S S' : Store} : joinS S S S' = S' := by
  funext a
  unfold joinS
  cases S a <;> rfl
section
variable {K : PySem.W.Frag} {H H' : Hp} {S S0 S' : Store} {F F' : Own} {C : Cs}
/-- what was left out stands as it stood -/
theorem join (p : Part S0 S) (m : DL.Mod K H S F) (m' : DL.Mod K H' S' F') (f : Fm S0 F H S' F' H') : DL.Mod K H' (joinS S S0 S') F' ∧ Fm S F H (joinS S S0 S') F' H' := by
  have m0 : DL.Mod K H S0 F := m.less p.sub
  have k := f.kp m0
  have nF : ∀ a o, S a = some o → F a = none := fun a o e => by
    cases q : F a with
    | none => rfl
    | some b => have z := (m.hid a b q).1; rw [e] at z; cases z
  refine ⟨⟨fun a o e => ?_, fun l a e => ?_⟩, ⟨fun a o e n1 n2 => f.keep a o e (by
      cases q : S0 a with
      | none => rfl
      | some u => rw [p.sub a u q] at n1; cases n1) n2, fun a e => ?_, fun a e => ?_⟩⟩
  · rcases joinS_cases (S := S) (S0 := S0) (S' := S') a with ⟨u, h0, h, q⟩ | ⟨_, q⟩
    · rw [q] at e
      cases e
      have same : ∀ v, H a = some v → H' a = some v := fun v e => f.keep a v e h0 (nF a o h)
      have r := m.obj a o h
      cases o with
      | lst ds => obtain ⟨vs, e1, r⟩ := r; exact ⟨vs, same _ e1, Reps.kp k _ _ r⟩
      | dic ds => obtain ⟨vs, e1, r⟩ := r; exact ⟨vs, same _ e1, r.kp k⟩
      | dit ds => obtain ⟨vs, e1, r⟩ := r; exact ⟨vs, same _ e1, r.kp k⟩
      | ins C fs => obtain ⟨dx, vs, e1, r⟩ := r; exact ⟨dx, vs, same _ e1, r.kp k⟩
      | xdo fs => obtain ⟨vs, e1, r⟩ := r; exact ⟨vs, same _ e1, r.kp k⟩
      | box => rw [p.box a h] at h0; cases h0
      | own C fs sub => exact absurd h0 (p.own a C fs sub h)
      | tab q =>
        obtain ⟨ps, e1, r1, r2⟩ := r
        refine ⟨ps, same _ e1, r1, fun pos cv hc => ?_⟩
        obtain ⟨c, z1, z2⟩ := r2 pos cv hc
        exact ⟨c, z1, k.code _ _ z2⟩
    · rw [q] at e
      exact m'.obj a o e
  · obtain ⟨h1, h2⟩ := m'.hid l a e
    refine ⟨?_, h2⟩
    rcases joinS_cases (S := S) (S0 := S0) (S' := S') l with ⟨u, h0, h, q⟩ | ⟨_, q⟩
    · rcases f.hd l (by rw [e]; simp) with z | z | z
      · exact absurd h0 z
      · exact absurd (nF l u h) z
      · exact absurd z (m.obj l u h).mut.there
    · rw [q]; exact h1
  · rcases joinS_cases (S := S) (S0 := S0) (S' := S') a with ⟨u, h0, h, q⟩ | ⟨_, q⟩
    · exact .inl (by rw [h]; simp)
    · rw [q] at e
      rcases f.st a e with z | z | z
      · refine .inl (fun n => z ?_)
        cases q : S0 a with
        | none => rfl
        | some u => rw [p.sub a u q] at n; cases n
      · exact .inr (.inl z)
      · exact .inr (.inr z)
  · rcases f.hd a e with z | z | z
    · refine .inl (fun n => z ?_)
      cases q : S0 a with
      | none => rfl
      | some u => rw [p.sub a u q] at n; cases n
    · exact .inr (.inl z)
    · exact .inr (.inr z)
/-- the frame, told with the cells -/
theorem Fm.back (c : ∀ a o, C a = some o → H a = some (.frz o (.own 0))) (cn : ∀ a o, C a = some o → H' a = none) (m' : DL.Mod K H' S' F') (f : Fm S0 F (delC H C) S' F' H') : Fm S0 F H S' F' (addC H' C) := by
  refine ⟨fun a o e n1 n2 => ?_, fun a e => ?_, fun a e => ?_⟩
  · cases q : C a with
    | none => rw [addC_out q]; exact f.keep a o (by rw [delC_out q]; exact e) n1 n2
    | some ob => rw [addC_in q, ← e, c a ob q]
  · rcases f.st a e with z | z | z
    · exact .inl z
    · exact .inr (.inl z)
    · cases q : C a with
      | none => rw [delC_out q] at z; exact .inr (.inr z)
      | some ob =>
        cases r : S' a with
        | none => exact absurd r e
        | some u => exact absurd (cn a ob q) (m'.obj a u r).mut.there
  · rcases f.hd a e with z | z | z
    · exact .inl z
    · exact .inr (.inl z)
    · cases q : C a with
      | none => rw [delC_out q] at z; exact .inr (.inr z)
      | some ob =>
        cases r : F' a with
        | none => exact absurd r e
        | some u => exact absurd (cn a ob q) (m'.hid a u r).2.there
end
/-! ### a lambda is called -/
structure LamF (L : LF) (vals : List (Str × D)) : Prop where
  kind : L.scope.kind = .function
  co : L.scope.isCoroutine = false
  gen : L.scope.isGenerator = false
  own : ∀ y ∈ L.scope.names, y.2 ≠ .cell
  free : ∀ y ∈ L.scope.names, y.2 = .free → y.1 ∈ vals.map (·.1)
  par : ∀ y, L.scope.names.lookup y = some .local → y ∉ vals.map (·.1)
  bind0 : L.params.defaults = [] → ∀ cl doc pm cdv ctv, bindArgs (PySem.W.kdv_fn "<lambda>" L.qual L.params (.expr L.body) L.scope cl .none doc pm cdv ctv) ⟨[], []⟩ = pure []
  bind1 : L.params.defaults.length = 1 → ∃ p, L.scope.names.lookup p = some .local ∧ ∀ cl T doc pm cdv ctv, ∃ k, bindArgs (PySem.W.kdv_fn "<lambda>" L.qual L.params (.expr L.body) L.scope cl (.ref T) doc pm cdv ctv) ⟨[], []⟩ = seqItems? (.ref T) >>= k ∧ ∀ v, k (some #[v]) = pure [(p, v)]
abbrev lamEnvD (L : LF) (cl : List (Str × Addr)) (loc f c : Addr) : Env := PySem.W.envX L.qual L.scope loc f (.ref c) cl
/-- the body's context -/
def lamCxD (P : Program) (w : World) (K : PySem.W.Frag) (mg : Str → Option Value) (base : Heap) (N : List Str) (L : LF) (cl : List (Str × Addr)) (f c : Addr) (A : Around) (outer : List Env) (s : Shared) (H : Hp) (E : XK) : Cx where
  prog := P
  w := w
  K := K
  mg := mg
  base := base
  A := A.deeper (lamEnvD L cl s.heap.objs.size f c)
  N := N
  s_0 := s
  H_0 := H
  env := lamEnvD L cl s.heap.objs.size f c
  outer := outer
  stack := lamEnvD L cl s.heap.objs.size f c :: outer
  ex := []
  fn := fun _ => false
  calm := true
  pn := []
  xe := fun e s' => wpAny (model P w) (A.deeper (lamEnvD L cl s.heap.objs.size f c)) (leaving (lamEnvD L cl s.heap.objs.size f c) e) (fun _ s2 => L2.CX P w outer H s E e s2) (fun e' s2 => L2.CX P w outer H s E e' s2) s'
section
variable {P : Program} {w : World} {K : PySem.W.Frag} {mg : Str → Option Value} {base : Heap} {A : Around} {outer : List Env} {s : Shared} {H : Hp} {E : XK} {L : LF} {vals : List (Str × D)} {cells : List (Str × Addr)} {f c : Addr}
theorem clo_lk (has : ∀ y ∈ L.scope.names, y.2 = .free → ∃ c, cells.lookup y.1 = some c) {y : Str} {a : Addr} (e : (cloFrom cells L.scope.names []).lookup y = some a) : cells.lookup y = some a ∧ (y, NameKind.free) ∈ L.scope.names := by
  rcases cloFrom_mem (PySem.mem_of_lookup e) with hm | ⟨h1, h2⟩
  · cases hm
  · obtain ⟨c1, hc⟩ := has _ h1 rfl
    have hc : cells.lookup y = some c1 := hc
    refine ⟨?_, h1⟩
    rw [h2, hc]
    rfl
theorem lam_enter {σ : L2.St} {h₁ : Heap} {tk : Nat} {binds : List (Str × Value)} (lf : LamF L vals) (e0 : Env0 P w K mg base A outer s H) (hd : A.handled = none) (inj : ∀ x y a, cells.lookup x = some a → cells.lookup y = some a → x = y)
    (hv : ∀ y ∈ vals.map (·.1), ∃ a o u, cells.lookup y = some a ∧ s.heap.get? a = some o ∧ o.data = .cell (some u) ∧ H a = none ∧ ∀ (i : Nat) (v : V), (vals.map (·.1))[i]? = some y → σ[i]? = some (some v) → RelV v u) (hl : σ.length = (vals.map (·.1)).length)
    (hns : h₁.Ns s.heap.objs.size fun y => binds.reverse.lookup y) (kp : ∀ b o, s.heap.get? b = some o → h₁.get? b = some o) :
    Inv (lamCxD P w K mg base (vals.map (·.1)) L (cloFrom cells L.scope.names []) f c A outer s H E) [] σ H { s with heap := h₁, toks := tk } := by
  have has : ∀ y ∈ L.scope.names, y.2 = .free → ∃ c, cells.lookup y.1 = some c := fun y hy e => by
    obtain ⟨a, o, u, h1, _⟩ := hv y.1 (lf.free y hy e)
    exact ⟨a, h1⟩
  have look : ∀ {y}, L.scope.names.lookup y = some .free → ∃ a, (cloFrom cells L.scope.names []).lookup y = some a := fun {y} hl => mem_lookup (cloFrom_has (cells := cells) (acc := []) (PySem.mem_of_lookup hl))
  have cellAt : ∀ {y a}, (cloFrom cells L.scope.names []).lookup y = some a → ∃ o u, s.heap.get? a = some o ∧ o.data = .cell (some u) ∧ H a = none ∧ ∀ (i : Nat) (v : V), (vals.map (·.1))[i]? = some y → σ[i]? = some (some v) → RelV v u := fun {y a} e => by
    obtain ⟨e1, e2⟩ := clo_lk has e
    obtain ⟨a', o, u, h1, h2, h3, h4, h5⟩ := hv y (lf.free _ e2 rfl)
    rw [e1] at h1
    cases h1
    exact ⟨o, u, h2, h3, h4, h5⟩
  have nil : ∀ b : Addr, b ∉ (lamCxD P w K mg base (vals.map (·.1)) L (cloFrom cells L.scope.names []) f c A outer s H E).ex := fun b z => absurd (show b ∈ ([] : List Addr) from z) (by simp)
  have ok : Cx.Ok (lamCxD P w K mg base (vals.map (·.1)) L (cloFrom cells L.scope.names []) f c A outer s H E) := {
    mod := e0.mod
    kind := lf.kind
    glob := rfl
    blt := rfl
    above := Nat.le_refl _
    inj := fun y z a e1 e2 => inj y z a (clo_lk has e1).1 (clo_lk has e2).1
    has := fun y hy => by
      have hy : L.scope.names.lookup y = some .cell ∨ L.scope.names.lookup y = some .free := hy
      rcases hy with hy | hy
      · exact absurd rfl (lf.own _ (PySem.mem_of_lookup hy))
      · exact look hy
    cab := fun y a z _ => by
      have z : false = true := z
      cases z
    hd := fun _ => hd
    frames := Around.frames_deeper e0.frames
    stk := .inr ⟨rfl, rfl⟩
    exf := fun b z => absurd z (nil b)
    bs := e0.bs
    bsz := e0.bsz
    noex := fun b _ _ => nil b
    exfs := fun b z => absurd z (nil b)
    funs := e0.funs
    frf := e0.frf }
  refine { ok := ok, os := rfl, bare := e0.bare, base := Un.kept kp, loc := ⟨_, hns, fun i y v e1 e2 e3 => ?_⟩, cell := fun y a e => ?_, free := e0.hok.fresh (Nat.le_refl _), freeC := fun y a e => ?_, pin := fun q hq => absurd (show q ∈ ([] : List (Addr × Obj)) ++ [] from hq) (by simp), hok := e0.hok.kept kp, len := hl }
  · have e1 : (vals.map (·.1))[i]? = some y := e1
    have e3 : Vis L.scope y := e3
    rcases e3 with k | k | k
    · exact absurd (List.mem_of_getElem? e1) (lf.par y k)
    · exact absurd rfl (lf.own _ (PySem.mem_of_lookup k))
    · obtain ⟨a, ha⟩ := look k
      obtain ⟨o, u, h1, h2, h3, h4⟩ := cellAt ha
      exact ⟨u, h4 i v e1 e2, .inr ⟨.inr k, a, ha, ⟨o, kp _ _ h1, h2⟩⟩⟩
  · obtain ⟨o, u, h1, h2, _⟩ := cellAt e
    exact ⟨some u, o, kp _ _ h1, h2⟩
  · obtain ⟨o, u, h1, h2, h3, _⟩ := cellAt e
    exact h3
end
/-- the cells that a sealed lambda leans on -/
def cellsOf (H : Hp) (cells : List (Str × Addr)) (vals : List (Str × D)) : Cs := fun a => if a ∈ vals.filterMap (fun p => cells.lookup p.1) then (match H a with | some (.frz o (.own 0)) => some o | _ => none) else none
theorem cellsOf_some {H : Hp} {cells : List (Str × Addr)} {vals : List (Str × D)} {a : Addr} {o : Obj} (h : cellsOf H cells vals a = some o) : a ∈ vals.filterMap (fun p => cells.lookup p.1) ∧ H a = some (.frz o (.own 0)) := by
  unfold cellsOf at h
  split at h
  · rename_i hm
    split at h
    · cases h
      exact ⟨hm, by assumption⟩
    · cases h
  · cases h
theorem RepC.at_ {K : PySem.W.Frag} {H : Hp} {cells : List (Str × Addr)} : ∀ {vals : List (Str × D)}, RepC K H cells vals → ∀ p ∈ vals, ∃ c o u v, cells.lookup p.1 = some c ∧ Fz H c o ∧ o.data = .cell (some u) ∧ RelV v u ∧ Rep K H p.2 v
  | [], _, p, hp => by cases hp
  | (y, d) :: r, ⟨h, hr⟩, p, hp => by
    rcases List.mem_cons.mp hp with e | hp
    · subst e; exact h
    · exact RepC.at_ hr p hp
theorem RepC.vs {K : PySem.W.Frag} {H : Hp} {cells : List (Str × Addr)} : ∀ {vals : List (Str × D)}, RepC K H cells vals → ∃ vs : List V, vs.length = vals.length ∧ ∀ (i : Nat) (p : Str × D), vals[i]? = some p → ∃ c o u v, cells.lookup p.1 = some c ∧ Fz H c o ∧ o.data = .cell (some u) ∧ RelV v u ∧ Rep K H p.2 v ∧ vs[i]? = some v
  | [], _ => ⟨[], rfl, fun i p e => by simp at e⟩
  | (y, d) :: r, ⟨⟨c, o, u, v, h1, h2, h3, h4, h5⟩, hr⟩ => by
    obtain ⟨vs, hl, h⟩ := RepC.vs hr
    refine ⟨v :: vs, by simp [hl], fun i p e => ?_⟩
    cases i with
    | zero =>
      have e : (y, d) = p := by simpa using e
      subst e
      exact ⟨c, o, u, v, h1, h2, h3, h4, h5, rfl⟩
    | succ i =>
      obtain ⟨c', o', u', v', g⟩ := h i p (by simpa using e)
      exact ⟨c', o', u', v', by simpa using g⟩
theorem RepC.fun {K : PySem.W.Frag} {H : Hp} {cells : List (Str × Addr)} {vals : List (Str × D)} (h : RepC K H cells vals) : ∀ a o, cellsOf H cells vals a = some o → ∃ v, o.data = .cell v := fun a o e => by
  obtain ⟨hm, hz⟩ := cellsOf_some e
  obtain ⟨p, hp, hl⟩ := List.mem_filterMap.mp hm
  obtain ⟨c, o', u, v, h1, h2, h3, _⟩ := h.at_ p hp
  rw [hl] at h1
  cases h1
  have e2 : some (HO.frz o (.own 0)) = some (.frz o' (.own 0)) := hz.symm.trans h2
  cases e2
  exact ⟨_, h3⟩
section
variable {P : Program} {w : World} {K : PySem.W.Frag} {mg : Str → Option Value} {base : Heap} {k : Nat} {L : LF} {vals : List (Str × D)} {cells : List (Str × Addr)}
/-- what a lambda's body does where the captured names hold vals -/
structure LamB (P : Program) (w : World) (K : PySem.W.Frag) (mg : Str → Option Value) (base : Heap) (k : Nat) (L : LF) (vals : List (Str × D)) (wb : DE) : Prop where
  lf : LamF L vals
  body : ∀ (A : Around) (outer : List Env) (s : Shared) (H : Hp) (E : XK) (cl : List (Str × Addr)) (f c : Addr), Room k (A.deeper (lamEnvD L cl s.heap.objs.size f c)) →
    PEd (lamCxD P w K mg base (vals.map (·.1)) L cl f c A outer s H E) (fun cls d _ H => E cls d H) L.body wb
theorem lam_code {A : Around} {outer : List Env} {s : Shared} {H : Hp} {wb : DE} {f : Addr} {S S0 : Store} {F : Own} {QD : DK} {ED : XE} {Q : VK} {E : XK} (b : LamB P w K mg base k L vals wb) (hr : Room (k + 1) A) (e0 : Env0 P w K mg base A outer s H) (fr : FnR K H L cells (.ref f)) (rc : RepC K H cells vals)
    (m : DL.Mod K H S F) (p : Part S0 S) (n : NoSS S0) (nv : ∀ p ∈ vals, noS p.2 = true) {Q0 : DK} {E0 : XE} (h : wb (vals.map fun p => some p.2) S0 Q0 E0) (hq0 : ∀ d S', Q0 d S' → QD d (joinS S S0 S')) (he0 : ∀ e S', E0 e S' → ED e (joinS S S0 S'))
    (kq : Post K S F H QD Q) (kx : PostX K mg S F H ED E) : codeAny (model P w) A (.call (.ref f) ⟨[], []⟩) (CR (L2.CX P w) outer P w H s Q E) s := by
  obtain ⟨f', c, doc, pm, ctv, dV, ef, hf, hc, hdf, inj⟩ := fr
  cases ef
  have hC := fun a o (e : cellsOf H cells vals a = some o) => (cellsOf_some e).2
  have us : Us (cellsOf H cells vals) H (frs outer) := ⟨fun a o e => ⟨hC a o e, fun z => by have y := e0.frf a z; rw [hC a o e] at y; cases y⟩⟩
  have hcell := rc.fun
  have kc : KpC H (delC H (cellsOf H cells vals)) := KpC.del hC hcell
  have e1 : Env0 P w K mg base A outer s (delC H (cellsOf H cells vals)) := {
    frames := e0.frames
    mod := e0.mod
    bs := fun a o e => ⟨(e0.bs a o e).1, by
      cases q : cellsOf H cells vals a with
      | none => rw [delC_out q]; exact (e0.bs a o e).2
      | some u => exact delC_in q⟩
    bsz := e0.bsz
    funs := e0.funs
    frf := fun a z => by
      cases q : cellsOf H cells vals a with
      | none => rw [delC_out q]; exact e0.frf a z
      | some u => exact delC_in q
    hok := HOk.del e0.hok hC
    bare := e0.bare }
  obtain ⟨vs, hvl, hvs⟩ := rc.vs
  have hin : ∀ (i : Nat) (p : Str × D), vals[i]? = some p → ∀ a o, cells.lookup p.1 = some a → Fz H a o → cellsOf H cells vals a = some o := fun i p e a o h1 h2 => by
    have h2' : H a = some (.frz o (.own 0)) := h2
    unfold cellsOf
    rw [if_pos (List.mem_filterMap.mpr ⟨p, List.mem_of_getElem? e, h1⟩)]
    simp only [h2']
  have m0 : DL.Mod K (delC H (cellsOf H cells vals)) S0 F := DL.Mod.del (m.less p.sub) n hC hcell
  have sl : SlR K (delC H (cellsOf H cells vals)) (vals.map fun p => some p.2) (vs.map some) := ⟨by simp [hvl], fun i d e => by
    rw [List.getElem?_map] at e
    cases q : vals[i]? with
    | none => rw [q] at e; cases e
    | some pd =>
      rw [q] at e
      cases e
      obtain ⟨a, o, u, v, h1, h2, h3, h4, h5, h6⟩ := hvs i pd q
      exact ⟨v, by rw [List.getElem?_map, h6]; rfl, Rep.kpC kc _ _ (nv pd (List.mem_of_getElem? q)) h5⟩⟩
  have of1 : s.heap.get? f = some (lamObj L (cloFrom cells L.scope.names []) doc pm ctv dV c) := (e0.hok f _ hf).1
  obtain ⟨⟨oc, ovs, ot, hoc, hdc, hvc⟩, _, _⟩ := e0.hok c _ hc
  let Q1 : VK := fun v H' => ∃ d S' F', Rep K H' d v ∧ DL.Mod K H' S' F' ∧ Fm S0 F (delC H (cellsOf H cells vals)) S' F' H' ∧ QD d (joinS S S0 S')
  let E1 : XK := fun cls dd H' => ∃ e S' F', ExcR K mg H' e cls dd ∧ DL.Mod K H' S' F' ∧ Fm S0 F (delC H (cellsOf H cells vals)) S' F' H' ∧ ED e (joinS S S0 S')
  have run : codeAny (model P w) A (.call (.ref f) ⟨[], []⟩) (CR (L2.CX P w) outer P w (delC H (cellsOf H cells vals)) s Q1 E1) s := by
    refine PySem.W.kla_callFunE hr.depth of1 rfl b.lf.co b.lf.gen rfl ⟨c, oc, ovs, ot, rfl, hoc, hdc, hvc⟩ ?_
    have bnd : ∃ binds : List (Str × Value), (∀ y ∈ binds, L.scope.names.lookup y.1 = some .local) ∧ BindsTo s (PySem.W.kdv_fn "<lambda>" L.qual L.params (.expr L.body) L.scope (cloFrom cells L.scope.names []) dV doc pm (.ref c) ctv) ⟨[], []⟩ binds := by
      rcases hdf with ⟨hd, rfl⟩ | ⟨hd, T, v, rfl, hT⟩
      · exact ⟨[], (fun y hy => absurd hy (by simp)), (fun M A' E' Q' q => by rw [b.lf.bind0 hd]; exact wpAny_pure q)⟩
      · obtain ⟨pn, hp, hb⟩ := b.lf.bind1 hd
        obtain ⟨kk, hb1, hb2⟩ := hb (cloFrom cells L.scope.names []) T doc pm (.ref c) ctv
        obtain ⟨_, its, rv, o, g1, g2, nn, g3⟩ := Rd.ok hT e0.hok
        cases rv with
        | cons r1 r2 =>
          cases r2
          rename_i u
          refine ⟨[(pn, u)], fun y hy => ?_, BindsTo.of_defaults rfl g1 g3 hb1 (hb2 u)⟩
          have e : y = (pn, u) := by simpa using hy
          subst e
          exact hp
    obtain ⟨binds, hloc, hb⟩ := bnd
    refine hb _ _ _ _ ?_
    refine wpAny_newFunctionEnv b.lf.own hloc (fun h₁ hns hsb => ⟨(e0.mod.nolimit.keeps fun b o e => (e0.bs b o e).1).fresh _ hsb, ?_⟩) b.lf.kind
    show codeAny _ _ (.expr L.body (lamEnvD L (cloFrom cells L.scope.names []) s.heap.objs.size f c)) _ _
    have kp : ∀ b o, s.heap.get? b = some o → h₁.get? b = some o := fun b o e => hsb.extBut b o (Nat.ne_of_lt (Heap.lt_size e)) (Heap.get?_push_of_some _ e)
    have J : Inv (lamCxD P w K mg base (vals.map (·.1)) L (cloFrom cells L.scope.names []) f c A outer s (delC H (cellsOf H cells vals)) E1) [] (vs.map some) (delC H (cellsOf H cells vals)) { s with heap := h₁, toks := s.toks + binds.length } := by
      refine lam_enter b.lf e1 hr.hd inj (fun y hy => ?_) (by simp [hvl]) hns kp
      obtain ⟨pd, hp, rfl⟩ := List.mem_map.mp hy
      obtain ⟨a, o, u, v, h1, h2, h3, h4, h5⟩ := rc.at_ pd hp
      obtain ⟨i0, hi0⟩ := List.getElem?_of_mem hp
      refine ⟨a, o, u, h1, (e0.hok a _ h2).1, h3, delC_in (hin i0 pd hi0 a o h1 h2), fun i v' hi hv' => ?_⟩
      rw [List.getElem?_map] at hi hv'
      cases q : vals[i]? with
      | none => rw [q] at hi; cases hi
      | some pd' =>
        rw [q] at hi
        have en : pd'.1 = pd.1 := Option.some.inj hi
        obtain ⟨a2, o2, u2, v2, g1, g2, g3, g4, g5, g6⟩ := hvs i pd' q
        rw [g6] at hv'
        cases hv'
        rw [en, h1] at g1
        cases g1
        have e2 : some (HO.frz o (.own 0)) = some (.frz o2 (.own 0)) := h2.symm.trans g2
        cases e2
        rw [h3] at g3
        cases g3
        exact g4
    have hpe := b.body A outer s (delC H (cellsOf H cells vals)) E1 (cloFrom cells L.scope.names []) f c (hr.deeper _)
    refine PySem.W.kla_codeExpr (wpAny_mono (hpe.run [] _ _ _ Q1 J ⟨_, S0, F, _, _, sl, m0, h, fun v H' d S' F' r m' f' q => ⟨d, S', F', r, m', f', hq0 d S' q⟩, fun cls dd H' e S' F' r m' f' q => ⟨e, S', F', r, m', f', he0 e S' q⟩⟩) (fun v s' hq => ?_) fun e s' hq => hq)
    obtain ⟨w', H', J', rv, q⟩ := hq
    exact ⟨w', H', J'.os, J'.bare, J'.base, J'.hok, rv, q⟩
  refine codeAny_mono run fun r s' hq => ?_
  have lift : ∀ {H' : Hp} {S' : Store} {F' : Own}, (∀ a o, cellsOf H cells vals a = some o → H' a = none) → DL.Mod K H' S' F' → Fm S0 F (delC H (cellsOf H cells vals)) S' F' H' → DL.Mod K (addC H' (cellsOf H cells vals)) (joinS S S0 S') F' ∧ Fm S F H (joinS S S0 S') F' (addC H' (cellsOf H cells vals)) := fun cn m' f' =>
    join p m (DL.Mod.add m' cn) (Fm.back hC cn m' f')
  cases r with
  | error e =>
    refine Us.cx us e0.hok hq fun cls dd H' cn ⟨e, S', F', r, m', f', q⟩ => ?_
    obtain ⟨m2, f2⟩ := lift cn m' f'
    exact kx cls dd _ e _ _ r m2 f2 q
  | ok fl =>
    cases fl with
    | ret u =>
      refine Us.ce us e0.hok hq fun v H' cn ⟨d, S', F', r, m', f', q⟩ => ?_
      obtain ⟨m2, f2⟩ := lift cn m' f'
      exact kq v _ d _ _ (Rep.kp (Kp.add cn) _ _ r) m2 f2 q
    | next => exact hq
    | brk => exact hq
    | cont => exact hq
end
/-- x(), x a sealed lambda -/
def wFn (P : Program) (w : World) (K : PySem.W.Frag) (mg : Str → Option Value) (base : Heap) (k i : Nat) : DE := fun σ S Q E => match σ[i]? with
  | some (some (.fnS L cells vals)) => ∃ S0 wb Q0 E0, LamB P w K mg base k L vals wb ∧ Part S0 S ∧ NoSS S0 ∧ (∀ p ∈ vals, noS p.2 = true) ∧ wb (vals.map fun p => some p.2) S0 Q0 E0 ∧ (∀ d S', Q0 d S' → Q d (joinS S S0 S')) ∧ ∀ e S', E0 e S' → E e (joinS S S0 S')
  | _ => False
theorem dpe_fn {X : Cx} {W : WX} {k i : Nat} {a : Str} {p1 p2 : Pos} (hr : Room (k + 1) X.A) (tk : Takes X W) (hN : X.N[i]? = some a := by rfl) (hv : Vis X.env.scope a := by first | exact Or.inl rfl | exact Or.inr (Or.inl rfl) | exact Or.inr (Or.inr rfl)) (hd : (a == ("__debug__" : Str)) = false := by decide)
    (hcd : (a == ("__classdict__" : Str)) = false := by decide) : PEd X W (.Call (.Name a p1) [] [] p2) (wFn X.prog X.w X.K X.mg X.base k i) := by
  refine ⟨fun pins s σ H Q I h => ?_⟩
  obtain ⟨σD, S, F, QD, ED, sl, m, h, kq, kx⟩ := h
  unfold wFn at h
  split at h
  · rename_i L cells vals e
    obtain ⟨S0, wb, Q0, E0, b, p, n, nv, h, hq0, he0⟩ := h
    obtain ⟨v, e1, fr, rc⟩ := sl.at_ i _ e
    refine wpAny_Call_Name_kw (thn ((pe_var (pos := p1) (i := i) hN hv hd hcd).run pins s σ H (fun u H1 => u = v ∧ H1 = H) I ⟨v, e1, rfl, rfl⟩) fun u s1 ⟨v1, H1, I1, r1, q1⟩ => ?_)
    obtain ⟨ev, eH⟩ := q1
    rw [ev] at r1
    rw [eH] at I1
    obtain ⟨f, c, doc, pm, ctv, dV, ef, hf, rest⟩ := id fr
    rw [ef] at r1
    obtain rfl : u = Value.ref f := r1
    refine PySem.W.callWith_F0 ⟨_, _, _, _, (I1.hok f _ hf).1⟩ ?_
    have run := lam_code (E := fun c d H' => W c d σ H') b hr I1.env0 (ef ▸ fr) rc m p n nv h hq0 he0 kq kx
    refine wpAny_call (codeAny_mono run fun r s' hq => ?_)
    cases r with
    | error e => exact passAt tk σ pins H s1 e s' I1 hq
    | ok fl =>
      cases fl with
      | ret u => exact I1.after hq
      | next => exact False.elim hq
      | brk => exact False.elim hq
      | cont => exact False.elim hq
  · exact h.elim
theorem dpe_fnE {X : Cx} {W : WX} {P : Program} {w : World} {K : PySem.W.Frag} {mg : Str → Option Value} {base : Heap} {k i : Nat} {a : Str} {p1 p2 : Pos} (hr : Room (k + 1) X.A) (tk : Takes X W) (hP : X.prog = P) (hw : X.w = w) (hK : X.K = K) (hmg : X.mg = mg) (hb : X.base = base) (hN : X.N[i]? = some a := by rfl)
    (hv : Vis X.env.scope a := by first | exact Or.inl rfl | exact Or.inr (Or.inl rfl) | exact Or.inr (Or.inr rfl)) (hd : (a == ("__debug__" : Str)) = false := by decide) (hcd : (a == ("__classdict__" : Str)) = false := by decide) : PEd X W (.Call (.Name a p1) [] [] p2) (wFn P w K mg base k i) := by
  subst hP hw hK hmg hb
  exact dpe_fn hr tk hN hv hd hcd
end DL
/-! ## DL13 -/
namespace DL
open PySem PySem.Spec PyProof.Rows L2 LamX
/-! ### a def gets lambdas of this def: the cells are known while it runs -/
def valsD (σ : DSt) : List (Str × Nat) → List (Str × D)
  | [] => []
  | (y, i) :: r => match σ[i]? with | some (some d) => (y, d) :: valsD σ r | _ => valsD σ r
theorem valsD_mem {σ : DSt} : ∀ {ns : List (Str × Nat)} {p : Str × D}, p ∈ valsD σ ns → ∃ q ∈ ns, q.1 = p.1 ∧ σ[q.2]? = some (some p.2)
  | [], p, h => by cases h
  | (y, i) :: r, p, h => by
    unfold valsD at h
    split at h
    · rename_i d e
      rcases List.mem_cons.mp h with z | h
      · subst z; exact ⟨(y, i), by simp, rfl, e⟩
      · obtain ⟨q, hq, e1, e2⟩ := valsD_mem h
        exact ⟨q, by simp [hq], e1, e2⟩
    · obtain ⟨q, hq, e1, e2⟩ := valsD_mem h
      exact ⟨q, by simp [hq], e1, e2⟩
def sealD (cells : List (Str × Addr)) (vals : List (Str × D)) : D → D
  | .fn L c => if c = cells then .fnS L c vals else .fn L c
  | d => d
def sealO (cells : List (Str × Addr)) (vals : List (Str × D)) : MO → MO
  | .lst ds => .lst (ds.map (sealD cells vals))
  | o => o
def sealS (cells : List (Str × Addr)) (vals : List (Str × D)) (S : Store) : Store := fun a => (S a).map (sealO cells vals)
section
variable {K : PySem.W.Frag} {H : Hp} {S : Store} {F : Own} {cells : List (Str × Addr)} {vals : List (Str × D)}
theorem Rep.seal (rc : RepC K H cells vals) : ∀ {d : D} {v : V}, Rep K H d v → Rep K H (sealD cells vals d) v
  | .fn L c, v, h => by
    show Rep K H (if c = cells then .fnS L c vals else .fn L c) v
    by_cases e : c = cells
    · rw [if_pos e]
      subst e
      exact ⟨h, rc⟩
    · rw [if_neg e]
      exact h
  | .non, _, h => h
  | .bl _, _, h => h
  | .int _, _, h => h
  | .str _, _, h => h
  | .ref _, _, h => h
  | .tup _, _, h => h
  | .fnS _ _ _, _, h => h
  | .rl _, _, h => h
  | .kl _, _, h => h
theorem Reps.seal (rc : RepC K H cells vals) : ∀ {ds : List D} {vs : List V}, Reps K H ds vs → Reps K H (ds.map (sealD cells vals)) vs
  | [], _, h => h
  | d :: ds, _, ⟨v, vr, e, h, r⟩ => ⟨v, vr, e, Rep.seal rc h, Reps.seal rc r⟩
theorem sealS_none {a : Addr} : sealS cells vals S a = none ↔ S a = none := by
  unfold sealS
  cases S a <;> simp
theorem Mod.seal (rc : RepC K H cells vals) (m : DL.Mod K H S F) : DL.Mod K H (sealS cells vals S) F := by
  refine ⟨fun a o e => ?_, fun l a e => ⟨sealS_none.mpr (m.hid l a e).1, (m.hid l a e).2⟩⟩
  unfold sealS at e
  cases q : S a with
  | none => rw [q] at e; cases e
  | some u =>
    rw [q] at e
    cases e
    have r := m.obj a u q
    cases u with
    | lst ds => obtain ⟨vs, e1, r⟩ := r; exact ⟨vs, e1, Reps.seal rc r⟩
    | _ => exact r
def sealC (h : Heap) (cells : List (Str × Addr)) (vals : List (Str × D)) : Cs := fun a => if a ∈ vals.filterMap (fun p => cells.lookup p.1) then h.get? a else none
theorem sealC_some {h : Heap} {a : Addr} {o : Obj} (e : sealC h cells vals a = some o) : a ∈ vals.filterMap (fun p => cells.lookup p.1) ∧ h.get? a = some o := by
  unfold sealC at e
  split at e
  · exact ⟨by assumption, e⟩
  · cases e
end
/-- x(..), where lambdas of this def's cells are among what is handed -/
def wCallS (cells : List (Str × Addr)) (names : List (Str × Nat)) (ws : DA) (sp : SpD) : DE := fun σ S Q E => ws σ S (fun ds S1 => ∃ S0, (∀ a o, S0 a = some o → S1 a = some o) ∧
  sp (ds.map (sealD cells (valsD σ names))) (sealS cells (valsD σ names) S0) (fun d S' => noS d = true ∧ ∃ S2, (∀ a o, S2 a = some o → S' a = some o) ∧ NoSS S2 ∧ Q d S2) XF) E
theorem dpe_calS {X : Cx} {W : WX} {e : Expr} {es : List Expr} {ws : DA} {pos p : Pos} {x : Str} {k j : Nat} {ps : List Str} {sp : SpD} {names : List (Str × Nat)} (G : Cal X.prog X.w X.K X.mg X.base x k ps sp) (hr : Room j X.A) (hkj : k ≤ j) (hg : Gl X x) (tk : Takes X W) (ha : PAd X W (e :: es) ws)
    (hfn : ∀ y, X.fn y = true) (hnm : ∀ q ∈ names, X.N[q.2]? = some q.1 ∧ X.env.scope.names.lookup q.1 = some .cell)
    (hdb : (x == ("__debug__" : Str)) = false := by decide) (he : starEach (e :: es) X.env = (false, eval e X.env) :: starEach es X.env := by rfl) (hpl : (backTo pos (starEach es X.env)).any (·.1) = false := by rfl) :
    PEd X W (.Call (.Name x p) (e :: es) [] pos) (wCallS X.env.cells names ws sp) := by
  obtain ⟨f, fd, FO, hm, hkp, hb⟩ := G.ex
  refine ⟨fun pins s σ H Q I h => ?_⟩
  obtain ⟨σD, S, F, QD, ED, sl, m, h, kq, kx⟩ := h
  refine wpAny_Call_Name_kw (ld_glob I hg hm ?_ hdb)
  refine PySem.W.callWith_K (h₀ := X.base) I.ok.mod.kin hkp (thn (ha.run pos pins s σ H (fun vs H1 => ∃ ds S1 F1, Reps X.K H1 ds vs ∧ DL.Mod X.K H1 S1 F1 ∧ Fm S F H S1 F1 H1 ∧ ∃ S0, (∀ a o, S0 a = some o → S1 a = some o) ∧
      sp (ds.map (sealD X.env.cells (valsD σD names))) (sealS X.env.cells (valsD σD names) S0) (fun d S' => noS d = true ∧ ∃ S2, (∀ a o, S2 a = some o → S' a = some o) ∧ NoSS S2 ∧ QD d S2) XF) I
      ⟨σD, S, F, _, ED, sl, m, h, fun vs H1 ds S1 F1 r1 m1 f1 q => ⟨ds, S1, F1, r1, m1, f1, q⟩, kx⟩) fun us s1 ⟨vs, H1, I1, r, q⟩ => ⟨I1.kIn, ?_⟩) he hpl
  obtain ⟨ds, S1, F1, r1, m1, f1, S0, sub, q⟩ := q
  have sl1 := sl.kp (f1.kp m)
  -- the cells
  have hcell : ∀ p ∈ valsD σD names, ∃ c o u v, X.env.cells.lookup p.1 = some c ∧ s1.heap.get? c = some o ∧ o.data = .cell (some u) ∧ L2.RelV v u ∧ Rep X.K H1 p.2 v := fun p hp => by
    obtain ⟨nm, hn, e1, e2⟩ := valsD_mem hp
    obtain ⟨hN, hc⟩ := hnm nm hn
    obtain ⟨v, e3, rv⟩ := sl1.at_ nm.2 p.2 e2
    obtain ⟨mm, hns, hl⟩ := I1.loc
    obtain ⟨u, ru, lk⟩ := hl nm.2 nm.1 v hN e3 (.inr (.inl hc))
    rcases lk with ⟨z, _⟩ | ⟨_, c, e4, o, e5, e6⟩
    · have z : X.env.scope.names.lookup nm.1 = some .local := z
      rw [hc] at z; cases z
    · exact ⟨c, o, u, v, by rw [← e1]; exact e4, e5, e6, ru, rv⟩
  have hC : ∀ a o, sealC s1.heap X.env.cells (valsD σD names) a = some o → s1.heap.get? a = some o ∧ H1 a = none ∧ a ∉ frs X.stack ∧ X.base.get? a = none ∧ ∃ v, o.data = .cell v := fun a o e => by
    obtain ⟨hm1, hg1⟩ := sealC_some e
    obtain ⟨p, hp, hl⟩ := List.mem_filterMap.mp hm1
    obtain ⟨c, o', u, v, h1, h2, h3, _⟩ := hcell p hp
    rw [hl] at h1
    cases h1
    rw [hg1] at h2
    cases h2
    have ab : X.s_0.heap.objs.size ≤ a := I1.ok.cab p.1 a (hfn _) hl
    refine ⟨hg1, I1.freeC p.1 a hl, fun z => ?_, Heap.get?_none_of_le (Nat.le_trans I1.ok.bsz ab), _, h3⟩
    rcases List.mem_cons.mp (I1.stkSub a z) with z | z
    · exact I1.cne p.1 a hl z
    · obtain ⟨_, o2, ho2, _⟩ := I1.ok.funs.mem z
      exact Nat.lt_irrefl _ (Nat.lt_of_lt_of_le (Heap.lt_size ho2) ab)
  have cn : ∀ a o, sealC s1.heap X.env.cells (valsD σD names) a = some o → H1 a = none := fun a o e => (hC a o e).2.1
  have slc : Sl (sealC s1.heap X.env.cells (valsD σD names)) H1 s1.heap (frs X.stack) := ⟨fun a o e => ⟨(hC a o e).1, (hC a o e).2.1, (hC a o e).2.2.1⟩⟩
  have e0 := I1.env0
  have e1 : Env0 X.prog X.w X.K X.mg X.base X.A X.stack s1 (addC H1 (sealC s1.heap X.env.cells (valsD σD names))) := {
    frames := e0.frames
    mod := e0.mod
    bs := fun b o e => ⟨(e0.bs b o e).1, by
      rw [addC_out (out_of fun u z => by rw [(hC b u z).2.2.2.1] at e; cases e)]; exact (e0.bs b o e).2⟩
    bsz := e0.bsz
    funs := e0.funs
    frf := fun b z => by rw [addC_out (out_of fun u y => (hC b u y).2.2.1 z)]; exact e0.frf b z
    hok := HOk.add e0.hok fun a o e => ⟨(hC a o e).1, (hC a o e).2.1⟩
    bare := e0.bare }
  have kp := Kp.add cn
  have rc : RepC X.K (addC H1 (sealC s1.heap X.env.cells (valsD σD names))) X.env.cells (valsD σD names) := by
    have all : ∀ l : List (Str × D), (∀ p ∈ l, p ∈ valsD σD names) → RepC X.K (addC H1 (sealC s1.heap X.env.cells (valsD σD names))) X.env.cells l := fun l => by
      induction l with
      | nil => intro _; trivial
      | cons p l ih =>
        intro hl
        obtain ⟨c, o, u, v, h1, h2, h3, h4, h5⟩ := hcell p (hl p (by simp))
        have hz : sealC s1.heap X.env.cells (valsD σD names) c = some o := by
          unfold sealC
          rw [if_pos (List.mem_filterMap.mpr ⟨p, hl p (by simp), h1⟩)]
          exact h2
        exact ⟨⟨c, o, u, v, h1, addC_in hz, h3, h4, Rep.kp kp _ _ h5⟩, ih fun q hq => hl q (by simp [hq])⟩
    exact all _ fun _ h => h
  have m2 : DL.Mod X.K (addC H1 (sealC s1.heap X.env.cells (valsD σD names))) (sealS X.env.cells (valsD σD names) S0) F1 := Mod.seal rc (DL.Mod.add (m1.less sub) cn)
  have r2 : Reps X.K (addC H1 (sealC s1.heap X.env.cells (valsD σD names))) (ds.map (sealD X.env.cells (valsD σD names))) vs := Reps.seal rc (Reps.kp kp _ _ r1)
  let Q1 : VK := fun v H' => ∃ d S' F', Rep X.K H' d v ∧ DL.Mod X.K H' S' F' ∧ Fm (sealS X.env.cells (valsD σD names) S0) F1 (addC H1 (sealC s1.heap X.env.cells (valsD σD names))) S' F' H' ∧ noS d = true ∧ ∃ S2, (∀ a o, S2 a = some o → S' a = some o) ∧ NoSS S2 ∧ QD d S2
  have hsp : upSp X.K X.mg sp vs (addC H1 (sealC s1.heap X.env.cells (valsD σD names))) Q1 (fun _ _ _ => False) := ⟨_, _, _, _, _, r2, m2, q, fun v H' d S' F' rr mm ff qq => ⟨d, S', F', rr, mm, ff, qq⟩, fun _ _ _ _ _ _ _ _ _ z => z.elim⟩
  have hlen : us.length = ps.length := by rw [← r.length]; exact FO.len _ _ _ _ hsp
  have hbs := hb s1 us I1.kIn (by rw [List.append_nil]; exact hlen)
  rw [List.append_nil] at hbs
  have run := FO.run X.A X.stack s1 (addC H1 (sealC s1.heap X.env.cells (valsD σD names))) ⟨us, []⟩ us vs Q1 (fun _ _ _ => False) (hr.mono hkj) e1 hbs r hsp
  refine wpAny_call (codeAny_mono run fun r s' hq => ?_)
  cases r with
  | error e =>
    have c := Sl.cx (E' := fun _ _ _ => False) slc hq fun _ _ _ _ z => z
    exact passAt L2.takes0 σ pins H1 s1 e s' I1 c
  | ok fl =>
    cases fl with
    | ret u =>
      refine I1.after (Sl.ce slc hq fun v H' fz ⟨d, S', F', rr, mm, ff, nd, S2, sub2, n2, qd⟩ => ?_)
      have cell : ∀ a o, sealC s1.heap X.env.cells (valsD σD names) a = some o → ∃ v, o.data = .cell v := fun a o e => (hC a o e).2.2.2.2
      refine kq v _ d S2 F' (Rep.kpC (KpC.del fz cell) _ _ nd rr) (DL.Mod.del (mm.less sub2) n2 fz cell) (f1.trans ⟨fun a o e z1 z2 => ?_, fun a e => ?_, fun a e => ?_⟩) qd
      · have no : sealC s1.heap X.env.cells (valsD σD names) a = none := out_of fun u z => by rw [cn a u z] at e; cases e
        rw [delC_out no]
        refine ff.keep a o (by rw [addC_out no]; exact e) (sealS_none.mpr ?_) z2
        cases q : S0 a with
        | none => rfl
        | some u => rw [sub a u q] at z1; cases z1
      · have e' : S' a ≠ none := fun z => by
          cases q : S2 a with
          | none => exact e q
          | some u => rw [sub2 a u q] at z; cases z
        rcases ff.st a e' with z | z | z
        · refine .inl fun y => z (sealS_none.mpr ?_)
          cases q : S0 a with
          | none => rfl
          | some u => rw [sub a u q] at y; cases y
        · exact .inr (.inl z)
        · cases q : sealC s1.heap X.env.cells (valsD σD names) a with
          | none => rw [addC_out q] at z; exact .inr (.inr z)
          | some u => exact .inr (.inr (cn a u q))
      · rcases ff.hd a e with z | z | z
        · refine .inl fun y => z (sealS_none.mpr ?_)
          cases q : S0 a with
          | none => rfl
          | some u => rw [sub a u q] at y; cases y
        · exact .inr (.inl z)
        · cases q : sealC s1.heap X.env.cells (valsD σD names) a with
          | none => rw [addC_out q] at z; exact .inr (.inr z)
          | some u => exact .inr (.inr (cn a u q))
    | next => exact False.elim hq
    | brk => exact False.elim hq
    | cont => exact False.elim hq
end DL
/-! ## DL14 -/
namespace DL
open PySem PySem.Spec PyProof.Rows L2
/-! ### try: .., except x as n: .. -/
def wTry (i : Nat) (cat : Str → Option Bool) (wb : DS) (ws : ExcD → Addr → DS) : DS := fun D σ S => wb { D with ex := fun e σ' S' => match cat e.name with
  | some true => ∀ a, S' a = none → ws e a { nx := fun σ2 S2 => D.nx (σ2.set i none) S2, rt := D.rt, bk := fun σ2 S2 => D.bk (σ2.set i none) S2, ct := fun σ2 S2 => D.ct (σ2.set i none) S2, ex := fun _ _ _ => False } (σ'.set i (some (.ref a))) S'
  | some false => D.ex e σ' S'
  | none => False } σ S
theorem SlR.gone {K : PySem.W.Frag} {H : Hp} {σD : DSt} {σ : L2.St} (h : SlR K H σD σ) (i : Nat) : SlR K H (σD.set i none) (σ.set i none) := by
  refine ⟨by rw [List.length_set, List.length_set]; exact h.len, fun j e q => ?_⟩
  by_cases hj : i = j
  · subst hj
    by_cases hl : i < σD.length
    · rw [List.getElem?_set_self hl] at q; cases q
    · rw [List.getElem?_eq_none (by rw [List.length_set]; omega)] at q; cases q
  · rw [List.getElem?_set_ne hj] at q ⊢
    exact h.at_ j e q
section
variable {X : Cx} {x n : Str} {c : Value} {i : Nat} {body suite : List Stmt} {b₀ : Stmt} {np pos pos' : Pos} {W : WX} {cat : Str → Option Bool} {wb : DS} {ws : ExcD → Addr → DS}
theorem dps_try (hs : X.stack = X.env :: X.outer) (hf : X.env.frame = some X.env.locals) (hN : X.N.Nodup) (hi : X.N[i]? = some n) (hln : X.env.kindOf n = some .local) (hc : Names X x c) (tk : Takes X W)
    (hcat : ∀ nm b cls, cat nm = some b → X.mg nm = some cls → PySem.W.exmOne X.K cls c = some b)
    (hb : ∀ (W' : WX) (pn : List (Addr × Obj)) (xe : Value → Shared → Prop), Takes (X.tr pn xe) W' → PSsd (X.tr pn xe) W' body wb)
    (hsu : ∀ (e : ExcD) (a : Addr) (oe : Obj) (cls : Value) (pn : List (Addr × Obj)), cat e.name = some true → X.mg e.name = some cls → Zc cls e.at_ oe → (∃ vs, oe.data = .fields vs) → PSsd (X.suite a ((a, oe) :: pn)) (fun _ _ _ _ => False) (b₀ :: suite) (ws e a)) :
    PSd X W (.Try body [.ExceptHandler (some (.Name x np)) (some n) (b₀ :: suite) pos'] [] [] pos) (wTry i cat wb ws) := by
  refine PS.imp (ps_try_as (i := i) (tb := fun W' => upS X.K X.mg W' wb) (ts := fun a cls d D σ H => ∃ e : ExcD, cat e.name = some true ∧ X.mg e.name = some cls ∧ e.at_ = d ∧ upS X.K X.mg (fun _ _ _ _ => False) (ws e a) D σ H) hs hf hN hi hln hc tk (fun W' pn xe tk' _ => hb W' pn xe tk')
    (fun a oe cls d pn hz hv => ⟨fun pins s σ H D I ⟨e, h0, h1, h2, h3⟩ => (hsu e a oe cls pn h0 h1 (h2 ▸ hz) hv).run pins s σ H D I h3⟩)) fun D σ H ⟨σD, S, F, DD, sl, m, h, k⟩ => ?_
  refine ⟨σD, S, F, _, sl, m, h, ⟨k.nx, k.rt, k.bk, k.ct, fun cls dd σ' H' e σD' S' F' r sl' m' f q => ?_⟩⟩
  dsimp only at q
  cases hq : cat e.name with
  | none => rw [hq] at q; exact q.elim
  | some b =>
    rw [hq] at q
    refine ⟨b, hcat e.name b cls hq r.1, fun hb' a ha => ?_, fun hb' => ?_⟩
    · subst hb'
      obtain ⟨na, nf⟩ := m'.fresh ha
      refine ⟨e, hq, r.1, r.2, σD'.set i (some (.ref a)), S', F', _, sl'.set i (d := .ref a) rfl, m', q a na, ?_⟩
      exact ⟨fun σ2 H2 σD2 S2 F2 sl2 m2 f2 q2 => k.nx _ H2 _ S2 F2 (sl2.gone i) m2 (f.trans f2) q2, k.rt.after f, fun σ2 H2 σD2 S2 F2 sl2 m2 f2 q2 => k.bk _ H2 _ S2 F2 (sl2.gone i) m2 (f.trans f2) q2, fun σ2 H2 σD2 S2 F2 sl2 m2 f2 q2 => k.ct _ H2 _ S2 F2 (sl2.gone i) m2 (f.trans f2) q2, fun _ _ _ _ _ _ _ _ _ _ _ _ z => z.elim⟩
    · subst hb'
      exact k.ex cls dd σ' H' e σD' S' F' r sl' m' f q
end
/-! ### in the suite: isinstance(e, C), e.f -/
def xdAt (e : ExcD) (S : Store) : Prop := match e.at_ with | none => True | some dd => (match S dd with | some (.xdo _) => True | _ => False)
def wIsE (i : Nat) (e : ExcD) (a : Addr) (b : Bool) : DE := fun σ S Q _ => σ[i]? = some (some (.ref a)) ∧ xdAt e S ∧ Q (.bl b) S
/-- what the class of an exception must say -/
structure ExK (K : PySem.W.Frag) (D : Addr) : Prop where
  cl : (PySem.W.clsIn K D).isSome = true
  hg : PySem.W.findIn K (.ref D) "__getattribute__" = some (some (.builtin "BaseException.__getattribute__"))
  hk : PySem.W.findIn K (.ref D) "__getattr__" = some none
  hs : PySem.W.subIn K (.ref D) (.type "BaseException") = some true
  ha : PySem.W.findIn K (.ref D) "__class__" = some (some (.builtin "object.__class__"))
  hn : PySem.W.specialIn K (.builtin "object.__class__") "__get__" = some (some (.builtin "getset_descriptor.__get__"))
  ht : PySem.W.takesIn K (.builtin "object.__class__") = some true
  hm : PySem.W.mroIn K D (.type "object") = some true
theorem pair_look {K : PySem.W.Frag} {H : Hp} {f : Str} {d : D} : ∀ {fs : List (Str × D)} {vs : List (Str × V)}, RepF K H fs vs → fs.lookup f = some d → ∃ v, vs.lookup f = some v ∧ Rep K H d v
  | _, _, .nil, e => by cases e
  | p :: fs, q :: vs, .cons r t, e => by
    obtain ⟨pf, pd⟩ := p
    obtain ⟨qf, qv⟩ := q
    obtain ⟨e1, r⟩ := r
    have e1 : pf = qf := e1
    subst e1
    rw [List.lookup_cons] at e ⊢
    split at e
    · cases e; exact ⟨qv, rfl, r⟩
    · exact pair_look t e
theorem isE_call {X : Cx} {a D : Addr} {d : Option Addr} {oe : Obj} {pn : List (Addr × Obj)} (C : ExK X.K D) (hz : Zc (.ref D) d oe) (hf : ∃ vs, oe.data = .fields vs) :
    CallR (X.suite a ((a, oe) :: pn)) (.builtin "isinstance") (fun xs H Q => ∃ (c : V) (cv : Value) (b : Bool), xs = [.ref a, c] ∧ (∀ u, L2.RelV c u → u = cv) ∧ PySem.W.kitOne X.K (.ref D) cv = some b ∧ (∀ dd, d = some dd → ∃ vs, H dd = some (.xd vs)) ∧ Q (.bl b) H) := by
  intro pins s σ H xs us Q I r h
  obtain ⟨c, cv, b, rfl, hcv, e, hd, q⟩ := h
  cases r with
  | cons rx rr =>
    cases rr with
    | cons rt rr =>
      cases rr
      cases rx
      have ec := hcv _ rt
      subst ec
      obtain ⟨hget, _⟩ := I.pin (a, oe) (List.mem_append.mpr (.inl List.mem_cons_self))
      obtain ⟨vs, hv⟩ := hf
      have J : ∃ od, PySem.W.InstAt s.heap a oe D od := by
        cases d with
        | none =>
          refine ⟨none, ?_⟩
          obtain ⟨oc, od, oda, osl⟩ := oe
          obtain ⟨h1, h2⟩ := hz
          dsimp only at h1 h2 hv
          subst h1 h2 hv
          exact ⟨hget, rfl, rfl, trivial⟩
        | some dd =>
          obtain ⟨xs, hx⟩ := hd dd rfl
          obtain ⟨mA, hns, hr⟩ := (show ObjOk X.prog X.w H s.heap dd (.xd xs) from I.hok dd _ hx)
          obtain ⟨od, ho, hl⟩ := lookIn_ns hns
          exact ⟨some od, hget, hz.1, by unfold PySem.W.notCls; rw [hv] <;> rfl, by rw [hz.2]; exact ho⟩
      obtain ⟨od, J⟩ := J
      exact PySem.W.kia_one (PySem.W.kitx_exc C.cl C.hg C.hk C.hs C.ha C.hn C.ht C.hm) I.kIn J e (fun z => nomatch z) fun tk => ⟨.bl b, H, I.kept (t' := tk) fun _ _ z => z, rfl, q⟩
section
variable {X : Cx} {a D : Addr} {oe : Obj} {pn : List (Addr × Obj)} {e : ExcD} {cls : Value} {i : Nat} {n : Str} {b : Bool} {pos p p1 p2 : Pos} {ex : Expr} {cv : Value} {c : V}
/-- isinstance(e, C): C's value is cv -/
theorem dpe_isE (hD : cls = .ref D) (C : ExK X.K D) (hz : Zc cls e.at_ oe) (hf : ∃ vs, oe.data = .fields vs) (hk : PySem.W.kitOne X.K (.ref D) cv = some b) (hcv : ∀ u, L2.RelV c u → u = cv) (hcl : PE (X.suite a ((a, oe) :: pn)) ex (tC c)) (hN : X.N[i]? = some n) (hv : Vis X.env.scope n)
    (hg : Gl X "isinstance") (hm : X.mg "isinstance" = none) (hd : (n == ("__debug__" : Str)) = false := by decide) (hcd : (n == ("__classdict__" : Str)) = false := by decide)
    (he : starEach [.Name n p1, ex] X.env = (false, eval (.Name n p1) X.env) :: starEach [ex] X.env := by rfl) (hpl : (backTo pos (starEach [ex] X.env)).any (·.1) = false := by rfl) (he2 : starEach [ex] X.env = (false, eval ex X.env) :: starEach [] X.env := by rfl) :
    PEd (X.suite a ((a, oe) :: pn)) (fun _ _ _ _ => False) (.Call (.Name "isinstance" p) [.Name n p1, ex] [] pos) (wIsE i e a b) := by
  subst hD
  refine PE.imp (pe_callB (X := X.suite a ((a, oe) :: pn)) (isE_call C hz hf) hg hm (by decide +kernel) (pa_cons (pe_var (X := X.suite a ((a, oe) :: pn)) (i := i) hN hv hd hcd) (pa_cons hcl pa_nil he2) he) (by decide) (by decide) he hpl) fun σ H Q ⟨σD, S, F, QD, ED, sl, m, ⟨h1, h2, h3⟩, k, kx⟩ => ?_
  obtain ⟨v, e1, r⟩ := sl.at_ i _ h1
  cases r
  refine ⟨.ref a, e1, c, cv, b, rfl, hcv, hk, fun dd hdd => ?_, k (.bl b) H (.bl b) S F rfl m (Fm.refl S F H) h3⟩
  unfold xdAt at h2
  rw [hdd] at h2
  dsimp only at h2
  split at h2
  · rename_i fs q
    obtain ⟨vs, g, _⟩ := m.obj _ _ q
    exact ⟨vs, g⟩
  · exact h2.elim
/-- e.f -/
def wXf (i : Nat) (e : ExcD) (a : Addr) (f : Str) : DE := fun σ S Q _ => σ[i]? = some (some (.ref a)) ∧ (match e.at_ with | some dd => (match S dd with | some (.xdo fs) => (match fs.lookup f with | some d => Q d S | none => False) | _ => False) | none => False)
theorem dpe_xf {f : Str} (hD : cls = .ref D) (T : XfC X.K D) (hno : PySem.W.findIn X.K (.ref D) f = some none) (hz : Zc cls e.at_ oe) (hf : ∃ vs, oe.data = .fields vs) (hN : X.N[i]? = some n) (hv : Vis X.env.scope n)
    (hd : (n == ("__debug__" : Str)) = false := by decide) (hcd : (n == ("__classdict__" : Str)) = false := by decide) (hb : attributeBase (.Name n p1) f X.env (eval (.Name n p1) X.env) = eval (.Name n p1) X.env := by rfl) :
    PEd (X.suite a ((a, oe) :: pn)) (fun _ _ _ _ => False) (.Attribute (.Name n p1) f pos) (wXf i e a f) := by
  subst hD
  refine PE.imp (pe_xf (X := X) (n := f) T hno hz hf (pe_var (X := X.suite a ((a, oe) :: pn)) (i := i) hN hv hd hcd) hb) fun σ H Q ⟨σD, S, F, QD, ED, sl, m, ⟨h1, h2⟩, k, kx⟩ => ?_
  obtain ⟨v, e1, r⟩ := sl.at_ i _ h1
  cases r
  refine ⟨.ref a, e1, rfl, rfl, ?_⟩
  split at h2
  · rename_i dd q1
    split at h2
    · rename_i fs q2
      split at h2
      · rename_i d q3
        obtain ⟨vs, g, rf⟩ := m.obj _ _ q2
        obtain ⟨v, l, rv⟩ := pair_look rf q3
        exact ⟨dd, vs, v, q1, g, l, k v H d S F rv m (Fm.refl S F H) h2⟩
      · exact h2.elim
    · exact h2.elim
  · exact h2.elim
end
/-! ### count, index of bools -/
section
variable {X : Cx}
def isBl (k : Bool) : Value → Bool | .bool b => b == k | _ => false
theorem isBl_eq {A : Around} {s : Shared} {k : Bool} : ∀ {bs : List Bool} {us : List Value}, Vals (bs.map V.bl) us → ∀ y ∈ us, SeqAt.EqAt A s y (.bool k) (isBl k y)
  | [], _, .nil, y, hy => by cases hy
  | b :: bs, u :: us, .cons r t, y, hy => by
    rcases List.mem_cons.mp hy with e | hy
    · subst e
      have r' : y = .bool b := r
      subst r'
      exact eqAt_V (y := .bl b) (x := .bl k) (u := .bool b) (v := .bool k) rfl rfl rfl rfl
    · exact isBl_eq t y hy
theorem isBl_count {k : Bool} : ∀ {bs : List Bool} {us : List Value}, Vals (bs.map V.bl) us → us.countP (isBl k) = bs.count k
  | [], _, .nil => rfl
  | b :: bs, u :: us, .cons r t => by
    have r' : u = .bool b := r
    subst r'
    rw [List.countP_cons, List.count_cons, isBl_count t]
    cases b <;> cases k <;> rfl
def rCntB (K : PySem.W.Frag) : V → List V → Hp → VK → Prop := fun x xs H Q => ∃ (p : Addr) (bs : List Bool) (k : Bool), x = .ref p ∧ xs = [.bl k] ∧ SqL K H p (bs.map V.bl) ∧ Q (.int (bs.count k : Nat)) H
theorem mt_countB : MtR X "list.count" (rCntB X.K) := by
  intro pins s σ H x xs v us Q I rx rxs h
  obtain ⟨p, bs, k, rfl, rfl, hs, q⟩ := h
  cases rx
  obtain ⟨u, rfl, ru⟩ := rxs.one
  have ru : u = .bool k := ru
  subst ru
  obtain ⟨its, rv, ⟨⟨cls, dd, data, sl⟩, n, ho, hc, hdn, hd⟩, hlen⟩ := I.list hs
  dsimp only at hc hd
  subst hc hd
  refine call_meets PySem.F.slot_list_count ⟨_, ho, rfl⟩ PySem.F.entry_list_count (PySem.F.args_list_count_2 _ _) (SeqAt.list_countAt p its.toArray n dd sl (.bool k) (isBl k)) ⟨ho, fun y hy => isBl_eq rv y (by simpa using hy), ?_⟩
  refine ⟨.int (bs.count k : Nat), H, I.tok _, ⟨s.toks, ?_⟩, q⟩
  rw [show its.toArray.toList = its by simp, isBl_count rv]
def asBls : List D → Option (List Bool)
  | [] => some []
  | .bl b :: r => (asBls r).map (b :: ·)
  | _ => none
theorem asBls_e : ∀ {ds : List D} {bs : List Bool}, asBls ds = some bs → ds = bs.map D.bl
  | [], bs, h => by cases h; rfl
  | d :: ds, bs, h => by
    cases d with
    | bl b =>
      have h' : (asBls ds).map (b :: ·) = some bs := h
      cases q : asBls ds with
      | none => rw [q] at h'; cases h'
      | some r =>
        rw [q] at h'
        cases h'
        rw [asBls_e q]
        rfl
    | _ => cases h
def dCountB : RM := fun d ds S Q => onL d S fun _ xs => match ds, asBls xs with | [.bl k], some bs => Q (.int (bs.count k : Nat)) S | _, _ => False
theorem lm_countB {K : PySem.W.Frag} : LM K (rCntB K) dCountB := fun x vs H d ds S F QD Q r rs m h k => by
  obtain ⟨a, xs, rfl, e, h'⟩ := onL_e h
  clear h
  cases r
  obtain ⟨us, g, gr⟩ := m.obj _ _ e
  split at h'
  · rename_i kk bs q
    obtain ⟨y, vr, rfl, ry, rfl⟩ := rs
    cases ry
    have ex := asBls_e q
    subst ex
    have eu := Reps.bls gr
    subst eu
    exact ⟨a, bs, kk, rfl, rfl, SqL.of g, k (.int _) H (.int _) S F rfl m (Fm.refl S F H) h'⟩
  · exact h'.elim
def dIndexB : RM := fun d ds S Q => onL d S fun _ xs => match ds, asBls xs with | [.bl k], some bs => (match bs.idxOf? k with | some j => Q (.int (j : Nat)) S | none => False) | _, _ => False
theorem lm_indexB {K : PySem.W.Frag} : LM K (rIndex K) dIndexB := fun x vs H d ds S F QD Q r rs m h k => by
  obtain ⟨a, xs, rfl, e, h'⟩ := onL_e h
  clear h
  cases r
  obtain ⟨us, g, gr⟩ := m.obj _ _ e
  split at h'
  · rename_i kk bs q
    split at h'
    · rename_i j qj
      obtain ⟨y, vr, rfl, ry, rfl⟩ := rs
      cases ry
      have ex := asBls_e q
      subst ex
      have eu := Reps.bls gr
      subst eu
      have hj := List.idxOf?_eq_some_iff.mp qj
      obtain ⟨hl, h1, h2⟩ := hj
      have hb : bs[j]? = some kk := by rw [List.getElem?_eq_getElem hl, h1]
      refine ⟨a, _, .bl kk, j, .bl kk, rfl, rfl, SqL.of g, rfl, List.all_eq_true.mpr (fun y hy => by obtain ⟨b, _, rfl⟩ := List.mem_map.mp hy; rfl), by rw [List.getElem?_map, hb]; rfl, by cases kk <;> rfl, fun m' z hm hz => ?_, k (.int _) H (.int _) S F rfl m (Fm.refl S F H) h'⟩
      rw [List.getElem?_map] at hz
      cases qz : bs[m']? with
      | none => rw [qz] at hz; cases hz
      | some bz =>
        rw [qz] at hz
        cases hz
        obtain ⟨hl2, e2⟩ := List.getElem?_eq_some_iff.mp qz
        have h3 := h2 m' hm
        rw [e2] at h3
        simp only [eqV]
        simpa using h3
    · exact h'.elim
  · exact h'.elim
end
end DL
/-! ## DL15 -/
namespace DL
open PySem PySem.Spec PyProof.Rows L2
/-! ### in, of flat values -/
def flatD : D → Option V
  | .non => some .non | .bl b => some (.bl b) | .int i => some (.int i) | .str s => some (.str s) | _ => none
theorem flatD_e {K : PySem.W.Frag} {H : Hp} {d : D} {v u : V} (e : flatD d = some u) (r : Rep K H d v) : v = u ∧ flatV u = true := by
  cases d <;> first | (cases e; cases r; exact ⟨rfl, rfl⟩) | cases e
def flatDs : List D → Option (List V)
  | [] => some []
  | d :: ds => (match flatD d, flatDs ds with | some v, some vs => some (v :: vs) | _, _ => none)
theorem flatDs_e {K : PySem.W.Frag} {H : Hp} : ∀ {ds : List D} {vs us : List V}, flatDs ds = some us → Reps K H ds vs → vs = us ∧ us.all flatV = true
  | [], _, _, e, r => by cases e; cases r; exact ⟨rfl, rfl⟩
  | d :: ds, _, _, e, ⟨v, vr, e2, r, rr⟩ => by
    subst e2
    unfold flatDs at e
    split at e
    · rename_i u us q1 q2
      cases e
      obtain ⟨h1, h2⟩ := flatD_e q1 r
      obtain ⟨h3, h4⟩ := flatDs_e q2 rr
      rw [h1, h3]
      exact ⟨rfl, by simp [h2, h4]⟩
    · cases e
def dIn (neg : Bool) : RD2 := fun d e S Q => match flatD d, e with
  | some x, .tup ys => (match flatDs ys with | some us => Q (.bl (if neg then !inV x us else inV x us)) S | none => False)
  | some x, .ref a => (match S a with | some (.lst ys) => (match flatDs ys with | some us => Q (.bl (if neg then !inV x us else inV x us)) S | none => False) | _ => False)
  | _, _ => False
theorem lr_in {K : PySem.W.Frag} {neg : Bool} : LR2 K (rIn K neg) (dIn neg) := by
  intro x y H d e S F QD Q rx ry m h k
  unfold dIn at h
  split at h
  · rename_i u ys q
    split at h
    · rename_i us q2
      obtain ⟨a, vs, rfl, t, r⟩ := ry
      obtain ⟨e1, e2⟩ := flatD_e q rx
      obtain ⟨e3, e4⟩ := flatDs_e q2 r
      subst e1 e3
      exact ⟨a, _, rfl, .inr t, e2, e4, k (.bl _) H (.bl _) S F rfl m (Fm.refl S F H) h⟩
    · exact h.elim
  · rename_i u a q
    split at h
    · rename_i ys q3
      split at h
      · rename_i us q2
        obtain ⟨vs, g, r⟩ := m.obj _ _ q3
        cases ry
        obtain ⟨e1, e2⟩ := flatD_e q rx
        obtain ⟨e3, e4⟩ := flatDs_e q2 r
        subst e1 e3
        exact ⟨a, _, rfl, .inl (SqL.of g), e2, e4, k (.bl _) H (.bl _) S F rfl m (Fm.refl S F H) h⟩
      · exact h.elim
    · exact h.elim
  · exact h.elim
theorem op_in_seq' {X : Cx} : OpR X (compareOp .In) (rIn X.K false) := op_in_seq
/-! ### what is left lying is forgotten -/
def Le (S S' : Store) : Prop := ∀ a o, S a = some o → S' a = some o
theorem Le.refl (S : Store) : Le S S := fun _ _ h => h
theorem Le.trans {S S1 S2 : Store} (a : Le S S1) (b : Le S1 S2) : Le S S2 := fun c o h => b c o (a c o h)
theorem Le.sup {S S1 : Store} {p : Addr} {o : MO} (a : Le S S1) (h : S1 p = none) : Le S (sup S1 p o) := fun c u e => by
  have := a c u e
  rw [sup_ne (sne this h)]; exact this
def Dr (Q : DK) : DK := fun d S' => ∃ S, Le S S' ∧ Q d S
def DrX (E : XE) : XE := fun e S' => ∃ S, Le S S' ∧ E e S
theorem Post.dr {K : PySem.W.Frag} {S : Store} {F : Own} {H : Hp} {QD : DK} {Q : VK} (k : Post K S F H QD Q) : Post K S F H (Dr QD) Q := fun v H' d S' F' r m f ⟨S2, l, q⟩ => k v H' d S2 F' r (m.less l) (f.less l) q
theorem PostX.dr {K : PySem.W.Frag} {mg : Str → Option Value} {S : Store} {F : Own} {H : Hp} {ED : XE} {Q : Value → Option Addr → Hp → Prop} (k : PostX K mg S F H ED Q) : PostX K mg S F H (DrX ED) Q := fun cls dd H' e S' F' r m f ⟨S2, l, q⟩ => k cls dd H' e S2 F' r (m.less l) (f.less l) q
theorem Def.calD {P : Program} {w : World} {K : PySem.W.Frag} {mg : Str → Option Value} {base : Heap} {x : Str} {st : Stmt} {N ps : List Str} {k : Nat} {sp : SpD} (G : Def K mg x st ps) (Sc : FnScope N ps (defScope st)) (len : ∀ ds S Q E, sp ds S Q E → ds.length = ps.length)
    (hbody : ∀ (f : Addr) (cdv : Value) (A : Around) (outer : List Env) (s : Shared) (H : Hp) (E : XK), Room k (A.deeper (envOfC x (defScope st) s.heap.objs.size f cdv)) →
      ∃ t, PSsd (cxOf (L2.CX P w) P w K mg base N x (defScope st) f cdv A outer s H E) (fun cls d _ H => E cls d H) (defBody st) t ∧
        ∀ ds S Q ED, sp ds S Q ED → t { nx := fun _ S' => Dr Q .non S', rt := Dr Q, ex := fun e _ S' => DrX ED e S' } (startD N ds) S) : Cal P w K mg base x (k + 1) ps sp :=
  (Def.cal (sp := fun ds S Q E => ∃ Q' E', Q = Dr Q' ∧ E = DrX E' ∧ sp ds S Q' E') G Sc (fun ds S Q E ⟨Q', E', _, _, h⟩ => len ds S Q' E' h) fun f cdv A outer s H E hr => by
    obtain ⟨t, ht, hw⟩ := hbody f cdv A outer s H E hr
    exact ⟨t, ht, fun ds S Q ED ⟨Q', E', e1, e2, h⟩ => by rw [e1, e2]; exact hw ds S Q' E' h⟩).imp fun vs H Q E ⟨ds, S, F, QD, ED, r, m, h, kq, kx⟩ => ⟨ds, S, F, Dr QD, DrX ED, r, m, ⟨QD, ED, rfl, rfl, h⟩, kq.dr, kx.dr⟩
/-! ### the own errors -/
def errNames : List Str := ["BadCount", "BadKey", "BadLogs", "BadNow", "BadRules", "BadSite", "BadText", "BadToken", "BadWants", "BadWorth", "NotYet", "Stale"]
structure ErrK (K : PySem.W.Frag) (mg : Str → Option Value) (errs : List Str) : Prop where
  ex : ∀ nm ∈ errs, ∃ D, mg nm = some (.ref D) ∧ ExK K D ∧ XfC K D ∧ (∀ c ∈ errNames, ∃ A : Addr, mg c = some (.ref A) ∧ PySem.W.kitOne K (.ref D) (.ref A) = some (nm == c)) ∧ PySem.W.kitOne K (.ref D) (.type "ValueError") = some true ∧
    ∀ f ∈ (["site", "row", "lacks", "by"] : List Str), PySem.W.findIn K (.ref D) f = some none
  port : ∃ C : Addr, mg "PortError" = some (.ref C) ∧ ∀ nm ∈ errs, ∀ cls, mg nm = some cls → PySem.W.exmOne K cls (.ref C) = some true
  val : mg "ValueError" = none
  isi : mg "isinstance" = none
def catE (errs : List Str) : Str → Option Bool := fun nm => if nm ∈ errs then some true else none
theorem catE_e {errs : List Str} {nm : Str} {b : Bool} (h : catE errs nm = some b) : nm ∈ errs ∧ b = true := by
  unfold catE at h
  split at h
  · cases h; exact ⟨by assumption, rfl⟩
  · cases h
section
variable {X : Cx} {a : Addr} {oe : Obj} {pn : List (Addr × Obj)} {e : ExcD} {cls : Value} {i : Nat} {n c : Str} {pos p p1 p2 : Pos} {errs : List Str}
theorem dpe_isK (Er : ErrK X.K X.mg errs) (he : catE errs e.name = some true) (hcls : X.mg e.name = some cls) (hz : Zc cls e.at_ oe) (hf : ∃ vs, oe.data = .fields vs) (hc : c ∈ errNames) (hN : X.N[i]? = some n) (hv : Vis X.env.scope n) (hg : Gl X "isinstance") (hgc : Gl X c)
    (hd : (n == ("__debug__" : Str)) = false := by decide) (hcd : (n == ("__classdict__" : Str)) = false := by decide) (hdc : (c == ("__debug__" : Str)) = false := by decide)
    (h1 : starEach [.Name n p1, .Name c p2] X.env = (false, eval (.Name n p1) X.env) :: starEach [.Name c p2] X.env := by rfl) (h2 : (backTo pos (starEach [.Name c p2] X.env)).any (·.1) = false := by rfl) (h3 : starEach [.Name c p2] X.env = (false, eval (.Name c p2) X.env) :: starEach [] X.env := by rfl) :
    PEd (X.suite a ((a, oe) :: pn)) (fun _ _ _ _ => False) (.Call (.Name "isinstance" p) [.Name n p1, .Name c p2] [] pos) (wIsE i e a (e.name == c)) := by
  obtain ⟨D, e1, k1, _, k2, _⟩ := Er.ex _ (catE_e he).1
  rw [e1] at hcls
  cases hcls
  obtain ⟨A, e2, k3⟩ := k2 c hc
  exact dpe_isE rfl k1 hz hf k3 (c := .ref A) (fun u r => r) (pe_glob (X := X.suite a ((a, oe) :: pn)) hgc e2 rfl hdc) hN hv hg Er.isi hd hcd h1 h2 h3
theorem dpe_isV (Er : ErrK X.K X.mg errs) (he : catE errs e.name = some true) (hcls : X.mg e.name = some cls) (hz : Zc cls e.at_ oe) (hf : ∃ vs, oe.data = .fields vs) (hN : X.N[i]? = some n) (hv : Vis X.env.scope n) (hg : Gl X "isinstance") (hgc : Gl X "ValueError")
    (hd : (n == ("__debug__" : Str)) = false := by decide) (hcd : (n == ("__classdict__" : Str)) = false := by decide)
    (h1 : starEach [.Name n p1, .Name "ValueError" p2] X.env = (false, eval (.Name n p1) X.env) :: starEach [.Name "ValueError" p2] X.env := by rfl) (h2 : (backTo pos (starEach [.Name "ValueError" p2] X.env)).any (·.1) = false := by rfl) (h3 : starEach [.Name "ValueError" p2] X.env = (false, eval (.Name "ValueError" p2) X.env) :: starEach [] X.env := by rfl) :
    PEd (X.suite a ((a, oe) :: pn)) (fun _ _ _ _ => False) (.Call (.Name "isinstance" p) [.Name n p1, .Name "ValueError" p2] [] pos) (wIsE i e a true) := by
  obtain ⟨D, e1, k1, _, _, k2, _⟩ := Er.ex _ (catE_e he).1
  rw [e1] at hcls
  cases hcls
  exact dpe_isE rfl k1 hz hf k2 (c := .ty "ValueError") (fun u r => r) (pe_bltn (X := X.suite a ((a, oe) :: pn)) hgc Er.val (by decide +kernel) rfl) hN hv hg Er.isi hd hcd h1 h2 h3
theorem dpe_xK {f : Str} (Er : ErrK X.K X.mg errs) (he : catE errs e.name = some true) (hcls : X.mg e.name = some cls) (hz : Zc cls e.at_ oe) (hf : ∃ vs, oe.data = .fields vs) (hff : f ∈ (["site", "row", "lacks", "by"] : List Str)) (hN : X.N[i]? = some n) (hv : Vis X.env.scope n)
    (hd : (n == ("__debug__" : Str)) = false := by decide) (hcd : (n == ("__classdict__" : Str)) = false := by decide) (hb : attributeBase (.Name n p1) f X.env (eval (.Name n p1) X.env) = eval (.Name n p1) X.env := by rfl) :
    PEd (X.suite a ((a, oe) :: pn)) (fun _ _ _ _ => False) (.Attribute (.Name n p1) f pos) (wXf i e a f) := by
  obtain ⟨D, e1, _, k1, _, _, k2⟩ := Er.ex _ (catE_e he).1
  rw [e1] at hcls
  cases hcls
  exact dpe_xf rfl k1 (k2 f hff) hz hf hN hv hd hcd hb
end
/-! ### what _law_told tells -/
def toldD (e : ExcD) (S : Store) : Option D := match e.at_ with
  | none => if e.name ∈ (["BadLogs", "NotYet", "Stale", "BadText"] : List Str) then none else some (.tup [.str e.name, .int 0])
  | some dd => (match S dd with
    | some (.xdo fs) =>
      if e.name = "BadLogs" then (match fs.lookup ("site" : Str), fs.lookup ("row" : Str) with | some x, some y => some (.tup [.str e.name, x, y]) | _, _ => none)
      else if e.name = "NotYet" then (match fs.lookup ("lacks" : Str) with | some x => some (.tup [.str e.name, x]) | _ => none)
      else if e.name = "Stale" then (match fs.lookup ("by" : Str) with | some x => some (.tup [.str e.name, x]) | _ => none)
      else if e.name = "BadText" then (match fs.lookup ("row" : Str) with | some x => some (.tup [.str e.name, x]) | _ => none)
      else none
    | _ => none)
/-- a sealed lambda, called: what it tells, or the error's word -/
def sp_told (P : Program) (w : World) (K : PySem.W.Frag) (mg : Str → Option Value) (base : Heap) (k : Nat) (errs : List Str) : SpD := fun ds S Q _ => match ds with
  | [.fnS L cells vals] => ∃ S0 wb Q0 E0, LamB P w K mg base k L vals wb ∧ Part S0 S ∧ NoSS S0 ∧ (∀ p ∈ vals, noS p.2 = true) ∧ wb (vals.map fun p => some p.2) S0 Q0 E0 ∧
      (∀ d S', Q0 d S' → Q d (joinS S S0 S')) ∧ ∀ e S', E0 e S' → catE errs e.name = some true ∧ ∃ d, toldD e (joinS S S0 S') = some d ∧ Q d (joinS S S0 S')
  | _ => False
theorem err_bits : ∀ nm ∈ errNames, (errNames.map (nm == ·)).count true = 1 ∧ ∃ j : Nat, (errNames.map (nm == ·)).idxOf? true = some j ∧ errNames[j]? = some nm := by
  intro nm h
  simp only [errNames, List.mem_cons, List.not_mem_nil, or_false] at h
  rcases h with rfl | rfl | rfl | rfl | rfl | rfl | rfl | rfl | rfl | rfl | rfl | rfl
  · exact ⟨by decide +kernel, 0, by decide +kernel, by decide +kernel⟩
  · exact ⟨by decide +kernel, 1, by decide +kernel, by decide +kernel⟩
  · exact ⟨by decide +kernel, 2, by decide +kernel, by decide +kernel⟩
  · exact ⟨by decide +kernel, 3, by decide +kernel, by decide +kernel⟩
  · exact ⟨by decide +kernel, 4, by decide +kernel, by decide +kernel⟩
  · exact ⟨by decide +kernel, 5, by decide +kernel, by decide +kernel⟩
  · exact ⟨by decide +kernel, 6, by decide +kernel, by decide +kernel⟩
  · exact ⟨by decide +kernel, 7, by decide +kernel, by decide +kernel⟩
  · exact ⟨by decide +kernel, 8, by decide +kernel, by decide +kernel⟩
  · exact ⟨by decide +kernel, 9, by decide +kernel, by decide +kernel⟩
  · exact ⟨by decide +kernel, 10, by decide +kernel, by decide +kernel⟩
  · exact ⟨by decide +kernel, 11, by decide +kernel, by decide +kernel⟩
def errD (nm : Str) : List D := (errNames.map (nm == ·)).map D.bl
theorem errD_eq (nm : Str) : errD nm = [.bl (nm == "BadCount"), .bl (nm == "BadKey"), .bl (nm == "BadLogs"), .bl (nm == "BadNow"), .bl (nm == "BadRules"), .bl (nm == "BadSite"), .bl (nm == "BadText"), .bl (nm == "BadToken"), .bl (nm == "BadWants"), .bl (nm == "BadWorth"), .bl (nm == "NotYet"), .bl (nm == "Stale")] := rfl
theorem asBls_map : ∀ bs : List Bool, asBls (bs.map D.bl) = some bs
  | [] => rfl
  | b :: bs => by
    show (asBls (bs.map D.bl)).map (b :: ·) = _
    rw [asBls_map bs]
    rfl
theorem asBls_err (nm : Str) : asBls [.bl (nm == "BadCount"), .bl (nm == "BadKey"), .bl (nm == "BadLogs"), .bl (nm == "BadNow"), .bl (nm == "BadRules"), .bl (nm == "BadSite"), .bl (nm == "BadText"), .bl (nm == "BadToken"), .bl (nm == "BadWants"), .bl (nm == "BadWorth"), .bl (nm == "NotYet"), .bl (nm == "Stale")] = some (errNames.map (nm == ·)) := asBls_map (errNames.map (nm == ·))
theorem atI_err {nm : Str} {j : Nat} (h : errNames[j]? = some nm) : atI [D.str "BadCount", D.str "BadKey", D.str "BadLogs", D.str "BadNow", D.str "BadRules", D.str "BadSite", D.str "BadText", D.str "BadToken", D.str "BadWants", D.str "BadWorth", D.str "NotYet", D.str "Stale"] (j : Int) = some (.str nm) := by
  rw [atI_ofN]
  show (errNames.map D.str)[j]? = _
  rw [List.getElem?_map, h]
  rfl
theorem Le.at_ {S S' : Store} {a : Addr} {o : MO} (l : Le S S') (h : S a = some o) : S' a = some o := l a o h
theorem xdAt.le {e : ExcD} {S S' : Store} (l : Le S S') (h : xdAt e S) : xdAt e S' := by
  unfold xdAt at h ⊢
  split
  · trivial
  · rename_i dd q
    rw [q] at h
    dsimp only at h
    split at h
    · rename_i fs q2
      rw [l.at_ q2]
      trivial
    · exact h.elim
theorem told_mono {P : Program} {w : World} {K : PySem.W.Frag} {mg : Str → Option Value} {base : Heap} {k : Nat} {errs : List Str} {ds : List D} {S : Store} {Q Q' : DK} {E E' : XE} (h : sp_told P w K mg base k errs ds S Q E) (q : ∀ d S', Q d S' → Q' d S') : sp_told P w K mg base k errs ds S Q' E' := by
  unfold sp_told at h ⊢
  split at h
  · obtain ⟨S0, wb, Q0, E0, h1, h2, h3, h4, h5, h6, h7⟩ := h
    refine ⟨S0, wb, Q0, E0, h1, h2, h3, h4, h5, fun d S' z => q _ _ (h6 d S' z), fun e S' z => ?_⟩
    obtain ⟨z1, d, z2, z3⟩ := h7 e S' z
    exact ⟨z1, d, z2, q _ _ z3⟩
  · exact h.elim
/-- all that is told is alike, and nothing is changed -/
def sp_all (P : Program) (w : World) (K : PySem.W.Frag) (mg : Str → Option Value) (base : Heap) (k : Nat) (errs : List Str) (n : Nat) : SpD := fun ds S Q _ => match ds with
  | [.ref a, due] => ∃ ws, S a = some (.lst ws) ∧ (∀ x ∈ ws, sp_told P w K mg base k errs [x] S (fun d S' => S' = S ∧ Alk n S d due) XF) ∧ Q (.bl true) S
  | _ => False
end DL
/-! ## DL16 -/
namespace DL
open PySem PySem.Spec PyProof.Rows L2
/-! ### comprehensions that change nothing -/
section
variable {St : Store → Prop} {g : DG} {t : DT} {e : DE} {σ : DSt} {S : Store} {Q : List D → Store → Prop}
theorem lcW_filter (p : D → Bool) (f : D → D) (hSt : St S) : ∀ {ds acc : List D}, acc.length + ds.length ≤ sizeLine →
    (∀ d ∈ ds, ∀ (Kt : D → Store → Prop) (Z : Store → Prop), (p d = true → Kt (f d) S) → (p d = false → Z S) → g d σ S (fun σ1 S1 => t σ1 S1 (fun b S2 => if b = true then e σ1 S2 Kt XF else Z S2) XF)) →
    Q (acc ++ (ds.filter p).map f) S → lcW St g t e σ ds acc S Q
  | [], acc, _, _, q => ⟨hSt, by simpa using q⟩
  | d :: ds, acc, hl, hs, q => by
    rw [List.length_cons] at hl
    refine ⟨hSt, hs d (by simp) _ _ (fun hp => ⟨by omega, ?_⟩) fun hp => ?_⟩
    · refine lcW_filter p f hSt (by rw [List.length_append, List.length_singleton]; omega) (fun x hx => hs x (by simp [hx])) ?_
      rw [List.filter_cons_of_pos hp] at q
      simpa using q
    · refine lcW_filter p f hSt (by omega) (fun x hx => hs x (by simp [hx])) ?_
      rw [List.filter_cons_of_neg (by simp [hp])] at q
      exact q
theorem lcW_map (f : D → D) (hSt : St S) {ds acc : List D} (hl : acc.length + ds.length ≤ sizeLine) (hs : ∀ d ∈ ds, ∀ (Kt : D → Store → Prop) (Z : Store → Prop), Kt (f d) S → g d σ S (fun σ1 S1 => t σ1 S1 (fun b S2 => if b = true then e σ1 S2 Kt XF else Z S2) XF))
    (q : Q (acc ++ ds.map f) S) : lcW St g t e σ ds acc S Q := lcW_filter (fun _ => true) f hSt hl (fun d hd Kt Z k _ => hs d hd Kt Z (k rfl)) (by rw [List.filter_eq_self.mpr (fun _ _ => rfl)]; exact q)
/-- each element one of those that R allows -/
theorem lcW_rel (R : D → D → Prop) (hSt : St S) : ∀ {ds acc : List D}, acc.length + ds.length ≤ sizeLine → (∀ d ∈ ds, ∀ (Kt : D → Store → Prop) (Z : Store → Prop), (∀ y, R d y → Kt y S) → g d σ S (fun σ1 S1 => t σ1 S1 (fun b S2 => if b = true then e σ1 S2 Kt XF else Z S2) XF)) →
    (∀ ys : List D, ys.length = ds.length → (∀ (i : Nat) (d y : D), ds[i]? = some d → ys[i]? = some y → R d y) → Q (acc ++ ys) S) → lcW St g t e σ ds acc S Q
  | [], acc, _, _, q => ⟨hSt, by simpa using q [] rfl (fun i d y h _ => by simp at h)⟩
  | d :: ds, acc, hl, hs, q => by
    rw [List.length_cons] at hl
    refine ⟨hSt, hs d (by simp) _ _ fun y hy => ⟨by omega, ?_⟩⟩
    refine lcW_rel R hSt (by rw [List.length_append, List.length_singleton]; omega) (fun x hx => hs x (by simp [hx])) fun ys hn hr => ?_
    have := q (y :: ys) (by simp [hn]) fun i a b ha hb => by
      cases i with
      | zero =>
        have e1 : d = a := by simpa using ha
        have e2 : y = b := by simpa using hb
        subst e1 e2
        exact hy
      | succ i => exact hr i a b (by simpa using ha) (by simpa using hb)
    simpa using this
end
theorem dAny_map {β : Type} {xs : List β} {p : β → Bool} {S : Store} {Q : DK} (h : Q (.bl (xs.any p)) S) : dAny (xs.map fun x => .bl (p x)) S Q := ⟨xs.map p, by simp, by rw [List.any_map]; exact h⟩
theorem dAll_map {β : Type} {xs : List β} {p : β → Bool} {S : Store} {Q : DK} (h : Q (.bl (xs.all p)) S) : dAll (xs.map fun x => .bl (p x)) S Q := ⟨xs.map p, by simp, by rw [List.all_map]; exact h⟩
theorem zipD_map {α β : Type} (f : α → D) (k : β → D) (as : List α) (bs : List β) : zipD (as.map f) (bs.map k) = (as.zip bs).map fun p => .tup [f p.1, k p.2] := by
  unfold zipD
  rw [List.zip_map, List.map_map]
  rfl
theorem filter_rng (p : D → Bool) (lo : Int) (n : Nat) : ∃ ns : List Int, (rngD lo n).filter p = ns.map D.int ∧ (ns = [] ↔ ∀ i : Nat, i < n → p (.int (lo + i)) = false) := by
  refine ⟨((List.range n).filter fun i => p (.int (lo + (i : Nat)))).map fun (i : Nat) => lo + i, ?_, ?_⟩
  · unfold rngD
    rw [List.filter_map, List.map_map]
    rfl
  · rw [List.map_eq_nil_iff, List.filter_eq_nil_iff]
    simp
theorem eqvAll_nil (ns : List Int) : PyData.eqvAll (ns.map .int) [] = decide (ns = []) := eqvAll_ints ns []
theorem cutD_to {xs : List D} {k : Int} (h : 0 ≤ k) (hk : k ≤ xs.length) : cutD xs none (some k) = xs.take k.toNat := by
  unfold cutD HT.sIx
  dsimp only
  rw [if_neg (by omega)]
  simp only [Nat.sub_zero, List.drop_zero]
  rw [show min k.toNat xs.length = k.toNat by omega]
theorem cutD_from {xs : List D} {k : Int} (h : 0 ≤ k) (hk : k ≤ xs.length) : cutD xs (some k) none = xs.drop k.toNat := by
  unfold cutD HT.sIx
  dsimp only
  rw [if_neg (by omega), show min k.toNat xs.length = k.toNat by omega]
  rw [List.take_of_length_le (by simp)]
theorem cutD_last {xs : List D} : cutD xs none (some (-1)) = xs.take (xs.length - 1) := by
  unfold cutD HT.sIx
  dsimp only
  rw [if_pos (by omega)]
  simp only [Nat.sub_zero, List.drop_zero]
  congr 1
  omega
/-! ### a statement at a time -/
def Nx (u : DS) (D : DEnds) : DSt → Store → Prop := fun σ S => u D σ S
theorem wSeq_nx {t u : DS} {D : DEnds} {σ : DSt} {S : Store} : wSeq t u D σ S = t { nx := Nx u D, rt := D.rt, ex := D.ex, bk := D.bk, ct := D.ct } σ S := rfl
theorem alk_ls {n : Nat} {S : Store} {f d : D} {xs ys : List D} (ea : lsOf S f = some xs) (eb : lsOf S d = some ys) (hl : xs.length = ys.length) (hb : xs.length ≤ 1000000000000) (h : ∀ (i : Nat) (f d : D), xs[i]? = some f → ys[i]? = some d → Alk n S f d) : Alk (n + 1) S f d := by
  rcases lsOf_cases eb with rfl | ⟨a, rfl, e⟩
  · exact ⟨xs, ea, hl, hb, h⟩
  · exact ⟨xs, ys, ea, eb, hl, hb, h⟩
theorem alk_ref {n : Nat} {S : Store} {a b : Addr} {xs ys : List D} (ea : S a = some (.lst xs)) (eb : S b = some (.lst ys)) (hl : xs.length = ys.length) (hb : xs.length ≤ 1000000000000) (h : ∀ (i : Nat) (f d : D), xs[i]? = some f → ys[i]? = some d → Alk n S f d) : Alk (n + 1) S (.ref a) (.ref b) :=
  alk_ls (lsOf_ref ea) (lsOf_ref eb) hl hb h
theorem NoSS.sup {S : Store} {p : Addr} {o : MO} (n : NoSS S) (h : noSo o = true) : NoSS (sup S p o) := fun a u e => by
  by_cases z : a = p
  · subst z; rw [sup_same] at e; cases e; exact h
  · rw [sup_ne z] at e; exact n a u e
end DL
/-! ## DL17 -/
namespace DL
open PySem PySem.Spec PyProof.Rows L2 LamX
def freeB (sc scope : Scope) : Bool := scope.names.all fun y => !decide (y.2 = .free) || decide (sc.names.lookup y.1 = some .cell) || decide (sc.names.lookup y.1 = some .free)
theorem dpe_lamS {X : Cx} {W : WX} {params : Arguments} {body : Expr} {scope : Scope} {pos : Pos} {c P : Addr} {q : Str} (TB : TabB X.base X.mg c P) (hcode : X.env.code = .ref c) (hq : X.env.qual ++ "<lambda>" = q) (hf : freeB X.env.scope scope = true)
    (hkd : params.kw_defaults = []) (hd : params.defaults = [] ∨ ∃ i j p, params.defaults = [.Constant (.int i) j p]) : PEd X W (.Lambda params body scope pos) (wLam P ⟨q, params, body, scope⟩ X.env.cells) := by
  subst hq
  refine ⟨fun pins s σ H Q I h => ?_⟩
  refine (dpe_lam (W := W) TB hcode (fun y hy e => ?_) hkd hd).run pins s σ H Q I h
  unfold freeB at hf
  have h1 := List.all_eq_true.mp hf y hy
  simp only [Bool.or_eq_true, Bool.not_eq_true', decide_eq_true_eq, decide_eq_false_iff_not] at h1
  rcases h1 with (z | z) | z
  · exact absurd e z
  · exact I.ok.has _ (.inl z)
  · exact I.ok.has _ (.inr z)
def nmB (N : List Str) (sc : Scope) (names : List (Str × Nat)) : Bool := names.all fun q => decide (N[q.2]? = some q.1) && decide (sc.names.lookup q.1 = some .cell)
theorem nmB_ok {N : List Str} {sc : Scope} {names : List (Str × Nat)} (h : nmB N sc names = true) : ∀ q ∈ names, N[q.2]? = some q.1 ∧ sc.names.lookup q.1 = some .cell := fun q hq => by
  have := List.all_eq_true.mp h q hq
  rwa [Bool.and_eq_true, decide_eq_true_eq, decide_eq_true_eq] at this
def lamFB (scope : Scope) (names : List Str) : Bool := decide (scope.kind = .function) && !scope.isCoroutine && !scope.isGenerator && scope.names.all fun y => !decide (y.2 = .cell) && (!decide (y.2 = .free) || names.contains y.1) && (!decide (y.2 = .local) || !names.contains y.1)
theorem lamF_by {L : LF} {vals : List (Str × D)} (h : lamFB L.scope (vals.map (·.1)) = true) (b0 : L.params.defaults = [] → ∀ cl doc pm cdv ctv, bindArgs (PySem.W.kdv_fn "<lambda>" L.qual L.params (.expr L.body) L.scope cl .none doc pm cdv ctv) ⟨[], []⟩ = pure [])
    (b1 : L.params.defaults.length = 1 → ∃ p, L.scope.names.lookup p = some .local ∧ ∀ cl T doc pm cdv ctv, ∃ k, bindArgs (PySem.W.kdv_fn "<lambda>" L.qual L.params (.expr L.body) L.scope cl (.ref T) doc pm cdv ctv) ⟨[], []⟩ = seqItems? (.ref T) >>= k ∧ ∀ v, k (some #[v]) = pure [(p, v)]) : LamF L vals := by
  unfold lamFB at h
  simp only [Bool.and_eq_true, decide_eq_true_eq, Bool.not_eq_true', Bool.or_eq_true, decide_eq_false_iff_not, List.all_eq_true] at h
  obtain ⟨⟨⟨h1, h2⟩, h3⟩, h4⟩ := h
  refine ⟨h1, h2, h3, fun y hy => (h4 y hy).1.1, fun y hy e => ?_, fun y hl hm => ?_, b0, b1⟩
  · rcases (h4 y hy).1.2 with z | z
    · exact absurd e z
    · exact List.contains_iff_mem.mp z
  · rcases (h4 _ (PySem.mem_of_lookup hl)).2 with z | z
    · exact z rfl
    · rw [List.contains_iff_mem.mpr hm] at z; cases z
/-- a law that holds lambdas: its code object is known -/
theorem law_ok {P : Program} {w : World} {K : PySem.W.Frag} {mg : Str → Option Value} {base : Heap} {x : Str} {st : Stmt} {N ps : List Str} {k : Nat} {sp : SpD} {f : Addr} {dV kV doc pm cdv ct oc : Value} {an od : Option Addr} {osl : Array (Option Value)}
    (lk : K.lookup f = some ⟨oc, od, .func (PySem.W.fnOf x x (defArgs st) (defBody st) (defScope st) dV kV doc pm an cdv ct), osl⟩) (hcd : PySem.W.codeIn K cdv x = true) (Sc : FnScope N ps (defScope st)) (len : ∀ ds S Q E, sp ds S Q E → ds.length = ps.length)
    (hbody : ∀ (A : Around) (outer : List Env) (s : Shared) (H : Hp) (E : XK), Room k (A.deeper (envOfC x (defScope st) s.heap.objs.size f cdv)) →
      ∃ t, PSsd (cxOf (L2.CX P w) P w K mg base N x (defScope st) f cdv A outer s H E) (fun cls d _ H => E cls d H) (defBody st) t ∧
        ∀ ds S Q ED, sp ds S Q ED → t { nx := fun _ S' => Dr Q .non S', rt := Dr Q, ex := fun e _ S' => DrX ED e S' } (startD N ds) S) :
    FnOk P w K mg base (L2.CX P w) (k + 1) f (PySem.W.fnOf x x (defArgs st) (defBody st) (defScope st) dV kV doc pm an cdv ct) ps (upSp K mg sp) := by
  refine fn_of lk hcd Sc (fun vs H Q E ⟨ds, S, F, QD, ED, r, m, h, _⟩ => by rw [← r.length]; exact len ds S QD ED h) fun A outer s H vs Q E hr ⟨ds, S, F, QD, ED, r, m, h, kq, kx⟩ => ?_
  obtain ⟨t, ht, hw⟩ := hbody A outer s H E hr
  have kq := kq.dr
  have kx := kx.dr
  exact ⟨_, ht, startD N ds, S, F, _, SlR.start r, m, hw ds S QD ED h, ⟨fun σ' H' σD' S' F' _ m' f q => kq .non H' .non S' F' rfl m' f q, kq, fun _ _ _ _ _ _ _ _ z => z.elim, fun _ _ _ _ _ _ _ _ z => z.elim, fun cls dd σ' H' e σD' S' F' r' _ m' f q => kx cls dd H' e S' F' r' m' f q⟩⟩
theorem sealD_id {cells : List (Str × Addr)} {vals : List (Str × D)} : ∀ {d : D}, noS d = true → sealD cells vals d = d
  | .fn _ _, h => by cases h
  | .non, _ => rfl
  | .bl _, _ => rfl
  | .int _, _ => rfl
  | .str _, _ => rfl
  | .ref _, _ => rfl
  | .tup _, _ => rfl
  | .fnS _ _ _, _ => rfl
  | .rl _, _ => rfl
  | .kl _, _ => rfl
theorem sealDs_id {cells : List (Str × Addr)} {vals : List (Str × D)} : ∀ {ds : List D}, noSs ds = true → ds.map (sealD cells vals) = ds
  | [], _ => rfl
  | d :: ds, h => by
    have h' : (noS d && noSs ds) = true := h
    rw [Bool.and_eq_true] at h'
    rw [List.map_cons, sealD_id h'.1, sealDs_id h'.2]
theorem sealO_id {cells : List (Str × Addr)} {vals : List (Str × D)} {o : MO} (h : noSo o = true) : sealO cells vals o = o := by
  cases o with
  | lst ds => exact congrArg MO.lst (sealDs_id h)
  | _ => rfl
theorem sealS_id {cells : List (Str × Addr)} {vals : List (Str × D)} {S : Store} (n : NoSS S) : sealS cells vals S = S := by
  funext a
  unfold sealS
  cases e : S a with
  | none => rfl
  | some o => rw [Option.map_some, sealO_id (n a o e)]
theorem sealS_sup {cells : List (Str × Addr)} {vals : List (Str × D)} {S : Store} {p : Addr} {o : MO} (n : NoSS S) : sealS cells vals (sup S p o) = sup S p (sealO cells vals o) := by
  funext a
  by_cases h : a = p
  · subst h
    unfold sealS
    rw [sup_same, sup_same]
    rfl
  · have e := congrFun (sealS_id (cells := cells) (vals := vals) n) a
    unfold sealS at e ⊢
    rw [sup_ne h, sup_ne h]
    exact e
theorem part_sup {S : Store} {p : Addr} {ws : List D} (hp : S p = none) : Part S (sup S p (.lst ws)) := ⟨fun a o e => by rw [sup_ne (sne e hp)]; exact e, fun a e => by
  by_cases h : a = p
  · subst h; rw [sup_same] at e; cases e
  · rw [sup_ne h] at e; exact e, fun a C fs sub e => by
  by_cases h : a = p
  · subst h; rw [sup_same] at e; cases e
  · rw [sup_ne h] at e; rw [e]; simp⟩
/-- lambdas that all let out the same error, handed to _law_all -/
theorem seal_bad {P : Program} {w : World} {K : PySem.W.Frag} {mg : Str → Option Value} {base : Heap} {k n : Nat} {errs : List Str} {cells : List (Str × Addr)} {vals : List (Str × D)} {S S0 : Store} {p : Addr} {Ls : List LF} {nm : Str} {Q : DK} (hp : S p = none) (le : Le S0 S) (n0 : NoSS S0) (nv : ∀ q ∈ vals, noS q.2 = true)
    (he : nm ∈ errs) (hn : nm ∉ (["BadLogs", "NotYet", "Stale", "BadText"] : List Str)) (hL : ∀ L ∈ Ls, ∃ wb, LamB P w K mg base k L vals wb ∧ wb (vals.map fun q => some q.2) S0 (fun _ _ => False) (fun e S' => e = ⟨nm, none⟩ ∧ S' = S0)) (q : Q (.bl true) S0) :
    ∃ S1, (∀ a o, S1 a = some o → sup S p (.lst (Ls.map fun L => .fn L cells)) a = some o) ∧ sp_all P w K mg base k errs (n + 2) [sealD cells vals (.ref p), sealD cells vals (.tup [.str nm, .int 0])] (sealS cells vals S1)
      (fun d S' => noS d = true ∧ ∃ S2, (∀ a o, S2 a = some o → S' a = some o) ∧ NoSS S2 ∧ Q d S2) XF := by
  have h0 : S0 p = none := by
    cases e : S0 p with
    | none => rfl
    | some o => rw [le p o e] at hp; cases hp
  refine ⟨sup S0 p (.lst (Ls.map fun L => .fn L cells)), fun a o e => ?_, ?_⟩
  · by_cases h : a = p
    · subst h; rw [sup_same] at e ⊢; exact e
    · rw [sup_ne h] at e ⊢; exact le a o e
  · rw [sealS_sup n0]
    refine ⟨_, sup_same, fun x hx => ?_, rfl, S0, fun a o e => by rw [sup_ne (sne e h0)]; exact e, n0, q⟩
    obtain ⟨y, hy, rfl⟩ := List.mem_map.mp hx
    obtain ⟨L, hL', rfl⟩ := List.mem_map.mp hy
    obtain ⟨wb, lb, hw⟩ := hL L hL'
    rw [show sealD cells vals (.fn L cells) = .fnS L cells vals from if_pos rfl]
    refine ⟨S0, wb, _, _, lb, part_sup h0, n0, nv, hw, fun d S' z => z.elim, fun e S' z => ?_⟩
    obtain ⟨rfl, rfl⟩ := z
    refine ⟨by unfold catE; rw [if_pos he], .tup [.str nm, .int 0], ?_, joinS_same (part_sup h0), ?_⟩
    · unfold toldD
      dsimp only
      rw [if_neg hn]
    · refine ⟨_, rfl, rfl, by simp, fun i f d hf hd => ?_⟩
      rw [hf] at hd
      cases hd
      match i with
      | 0 => cases hf; exact rfl
      | 1 => cases hf; exact rfl
      | i + 2 => simp at hf
theorem noS_ints' (as : List Int) : noSo (.lst (as.map D.int)) = true := by
  show noSs (as.map D.int) = true
  induction as with
  | nil => rfl
  | cons a as ih => simpa [noSs, noS] using ih
/-! ### the beginning -/
theorem mod_none {K : PySem.W.Frag} {H : Hp} : DL.Mod K H (fun _ => none) (fun _ => none) := ⟨(fun a o e => by cases e), (fun l a e => by cases e)⟩
theorem noSS_none : NoSS (fun _ => none) := fun a o e => by cases e
theorem ints_start {K : PySem.W.Frag} {H : Hp} {mg : Str → Option Value} {PT a : Addr} {ns : List Int} {q : Str} {sp : SpD} (hT : H PT = some (.tbl #[])) (hS : SqL K H a (ns.map V.int))
    (h : ∀ d S, isInts d S ns → S PT = some (.tab q) → NoSS S → sp [d] S (fun d' _ => d' = .bl true) XF) : upSp K mg sp [.ref a] H (fun v _ => v = .bl true) (fun _ _ _ => False) := by
  have tb : ObjR K H (fun _ => none) PT (.tab q) := TabS.nil hT
  rcases DL.SqL.split hS with hS | hS
  · have ne : a ≠ PT := fun z => by rw [z, hT] at hS; cases hS
    have m1 : DL.Mod K H (sup (fun _ => none) a (.lst (ns.map D.int))) (fun _ => none) := mod_none.adopt rfl rfl ⟨_, hS, Reps.of_ints ns⟩
    have m2 : DL.Mod K H (sup (sup (fun _ => none) a (.lst (ns.map D.int))) PT (.tab q)) (fun _ => none) := m1.adopt (by rw [sup_ne (Ne.symm ne)]) rfl tb
    refine ⟨[.ref a], _, _, _, XF, Reps.one (d := .ref a) rfl, m2, h (.ref a) _ (.inr ⟨a, rfl, by rw [sup_ne ne, sup_same]⟩) sup_same ((noSS_none.sup (noS_ints' ns)).sup rfl), fun v H' d S' F' r _ _ z => ?_, fun _ _ _ _ _ _ _ _ _ z => z.elim⟩
    subst z
    exact r
  · have m2 : DL.Mod K H (sup (fun _ => none) PT (.tab q)) (fun _ => none) := mod_none.adopt rfl rfl tb
    refine ⟨[.kl (ns.map D.int)], _, _, _, XF, Reps.one (d := .kl (ns.map D.int)) ⟨a, _, rfl, hS, Reps.of_ints ns⟩, m2, h _ _ (.inl rfl) sup_same (noSS_none.sup rfl), fun v H' d S' F' r _ _ z => ?_, fun _ _ _ _ _ _ _ _ _ z => z.elim⟩
    subst z
    exact r
end DL
/-! ## DL18 -/
namespace DL
open PySem PySem.Spec PyProof.Rows L2
open PySem.W (alike alikeAll dataLt dataLe AllAlike EachIs sorted_data)
/-! ### what holds no cell, as data -/
mutual
def pureD : D → Bool
  | .non => true | .bl _ => true | .int _ => true | .str _ => true
  | .tup ds => pureDs ds
  | _ => false
def pureDs : List D → Bool
  | [] => true
  | d :: ds => pureD d && pureDs ds
end
mutual
def toP : D → PyData
  | .bl b => .bool b | .int i => .int i | .str s => .str s
  | .tup ds => .tuple (toPs ds)
  | _ => .none
def toPs : List D → List PyData
  | [] => []
  | d :: ds => toP d :: toPs ds
end
mutual
theorem pyr_toP {S : Store} : ∀ d : D, pureD d = true → PyR S (toP d) d
  | .non, _ => by simp [toP, PyR]
  | .bl _, _ => by simp [toP, PyR]
  | .int _, _ => by simp [toP, PyR]
  | .str _, _ => by simp [toP, PyR]
  | .tup ds, h => by
    rw [toP, PyR]
    exact ⟨ds, rfl, pyrs_toP ds (by rw [pureD] at h; exact h)⟩
theorem pyrs_toP {S : Store} : ∀ ds : List D, pureDs ds = true → PyRs S (toPs ds) ds
  | [], _ => by simp [toPs, PyRs]
  | d :: ds, h => by
    rw [pureDs, Bool.and_eq_true] at h
    rw [toPs, PyRs]
    exact ⟨d, ds, rfl, pyr_toP d h.1, pyrs_toP ds h.2⟩
end
/-! ### sorted of such -/
abbrev leD : D → D → Bool := dataLe false toP
def rSortD (K : PySem.W.Frag) : List V → Hp → VK → Prop := fun vs H Q => ∃ (a : Addr) (L : List (D × V)), vs = [V.ref a] ∧ SqL K H a (L.map (·.2)) ∧ (∀ z ∈ L, Dp K H z.2 (toP z.1)) ∧ AllAlike (L.map fun z => toP z.1) ∧ PySem.W.Sortable (L.map fun z => toP z.1) ∧
  (∀ z ∈ L, (toP z.1).depth ≤ 60) ∧ ∀ p, H p = none → Q (.ref p) (upd H p (.lst ((L.mergeSort (dataLe false fun z => toP z.1)).map (·.2))))
theorem each_vals {β : Type} {f : β → V} : ∀ {L : List β} {its : List Value}, Vals (L.map f) its → EachIs (fun u z => L2.RelV (f z) u) its L
  | [], _, .nil => .nil
  | _ :: _, _, .cons r t => .cons r (each_vals t)
theorem vals_each {β : Type} {f : β → V} : ∀ {L : List β} {its : List Value}, EachIs (fun u z => L2.RelV (f z) u) its L → Vals (L.map f) its
  | _, _, .nil => .nil
  | _, _, .cons r t => .cons r (vals_each t)
theorem each_and {α β : Type} {R : α → β → Prop} {P : α → β → Prop} : ∀ {as : List α} {bs : List β}, EachIs R as bs → (∀ a b, b ∈ bs → R a b → P a b) → EachIs P as bs
  | _, _, .nil, _ => .nil
  | _, _, .cons r t, h => .cons (h _ _ List.mem_cons_self r) (each_and t fun a b m => h a b (List.mem_cons_of_mem _ m))
section
variable {X : Cx} {K : PySem.W.Frag}
theorem cr_sortD (hu : X.A.units + 64 < cLine) : CallR X (.builtin "sorted") (rSortD X.K) := fun pins s σ H vs us Q I r ⟨a, L, ev, hs, dp, al, so, de, q⟩ => by
  subst ev
  obtain rfl := Vals.ref1 r
  obtain ⟨its, rv, ta, sz⟩ := I.list hs
  have e := each_vals rv
  refine sorted_data (enc := fun z => toP z.1) ta.isList e (each_and e fun u z m ru => Dp.reads I _ _ _ (dp z m) ru) al so (by simpa using sz) (fun z m => by have := de z m; omega) fun out ol eo => ?_
  obtain ⟨ep, eh⟩ := PyProof.Rows.sortedAll_at s.heap its out.toArray
  refine ⟨.ref _, upd H (s.heap.objs.size + 1) (.lst ((L.mergeSort (dataLe false fun z => toP z.1)).map (·.2))), I.laid (t' := s.toks) (fun _ _ => PyProof.Rows.sortedAll_old) (Nat.le_succ _) ⟨?_, out, ep, vals_each eo, eh⟩, rfl, q _ (I.hok.fresh (Nat.le_succ _))⟩
  simpa using sz
theorem zip_reps {H : Hp} : ∀ {ds : List D} {vs : List V}, Reps K H ds vs → (ds.zip vs).map (·.1) = ds ∧ (ds.zip vs).map (·.2) = vs ∧ ∀ z ∈ ds.zip vs, Rep K H z.1 z.2
  | [], _, r => by cases r; exact ⟨rfl, rfl, nofun⟩
  | d :: ds, _, ⟨v, vr, e, r, rr⟩ => by
    subst e
    obtain ⟨h1, h2, h3⟩ := zip_reps rr
    refine ⟨by simp [h1], by simp [h2], fun z m => ?_⟩
    rcases List.mem_cons.mp m with e | m
    · subst e; exact r
    · exact h3 z m
theorem reps_zip {H : Hp} : ∀ {L : List (D × V)}, (∀ z ∈ L, Rep K H z.1 z.2) → Reps K H (L.map (·.1)) (L.map (·.2))
  | [], _ => rfl
  | z :: L, h => ⟨z.2, _, rfl, h z List.mem_cons_self, reps_zip fun y m => h y (List.mem_cons_of_mem _ m)⟩
theorem pure_mem : ∀ {ds : List D}, pureDs ds = true → ∀ d ∈ ds, pureD d = true
  | d :: ds, h, e, m => by
    rw [pureDs, Bool.and_eq_true] at h
    rcases List.mem_cons.mp m with q | m
    · rw [q]; exact h.1
    · exact pure_mem h.2 e m
/-- sorted(xs), xs by value: in layer D -/
def dSortOf (ds : List D) (S : Store) (Q : List D → Store → Prop) : Prop :=
  pureDs ds = true ∧ AllAlike (ds.map toP) ∧ PySem.W.Sortable (ds.map toP) ∧ (∀ e ∈ ds, (toP e).depth ≤ 60) ∧ Q (ds.mergeSort leD) S
theorem sort_fst (L : List (D × V)) : (L.mergeSort (dataLe false fun z => toP z.1)).map (·.1) = (L.map (·.1)).mergeSort leD := List.map_mergeSort fun _ _ _ _ => rfl
theorem lc_sort : LCL K (rSortD K) dSortOf := by
  intro p vs H ds S F QD Q q r m ⟨pu, al, so, de, h⟩ k
  obtain ⟨e1, e2, e3⟩ := zip_reps r
  have e4 : ((ds.zip vs).map fun z => toP z.1) = ds.map toP := by rw [← e1, List.map_map, e1] <;> rfl
  have e5 : ∀ z ∈ ds.zip vs, z.1 ∈ ds := fun z mz => e1 ▸ List.mem_map_of_mem mz
  refine ⟨p, ds.zip vs, rfl, by rw [e2]; exact q, fun z mz => (pyr_toP z.1 (pure_mem pu _ (e5 z mz))).dp m _ _ _ (e3 z mz), e4 ▸ al, e4 ▸ so, fun z mz => de _ (e5 z mz), fun l hl => ?_⟩
  obtain ⟨hs, hf⟩ := m.fresh hl
  have rr : Reps K H (ds.mergeSort leD) (((ds.zip vs).mergeSort (dataLe false fun z => toP z.1)).map (·.2)) := by
    have := reps_zip (L := (ds.zip vs).mergeSort (dataLe false fun z => toP z.1)) (K := K) (H := H) fun z mz => e3 z ((List.mergeSort_perm _ _).mem_iff.mp mz)
    rwa [sort_fst, e1] at this
  exact k l _ _ _ S F upd_same hs hf (.inr (.inr hl)) (Reps.kp (kp_new hl) _ _ rr) (m.laid hl) (Fm.laid hl) h
/-! ### max of such -/
def rMaxO (K : PySem.W.Frag) : List V → Hp → VK → Prop := fun vs H Q => ∃ (a : Addr) (L : List (D × V)), vs = [V.ref a] ∧ SqL K H a (L.map (·.2)) ∧ (∀ z ∈ L, Dp K H z.2 (toP z.1)) ∧ AllAlike (L.map fun z => toP z.1) ∧ (∀ z ∈ L, toP z.1 ≠ .none) ∧ L ≠ [] ∧
  (∀ z ∈ L, (toP z.1).depth ≤ 60) ∧ ∀ z ∈ L, (∀ y ∈ L, dataLt (toP z.1) (toP y.1) = false) → Q z.2 H
theorem lt_trans' {x y z : PyData} (h1 : dataLt x y = true) (h2 : dataLt y z = true) : dataLt x z = true := (listOrd itemOrd).trans _ _ _ h1 h2
theorem lt_neg {x z : PyData} (y : PyData) (h : dataLt x z = true) : dataLt x y = true ∨ dataLt y z = true := (listOrd itemOrd).negTrans _ _ _ h
theorem max_top : ∀ (xs : List PyData) (x : PyData), PySem.W.maxD x xs ∈ x :: xs ∧ ∀ y ∈ x :: xs, dataLt (PySem.W.maxD x xs) y = false
  | [], x => ⟨List.mem_cons_self, fun y m => by rw [List.mem_singleton.mp m]; exact (listOrd itemOrd).irrefl _⟩
  | y :: xs, x => by
    show PySem.W.maxD (if dataLt x y then y else x) xs ∈ _ ∧ ∀ z ∈ _, dataLt (PySem.W.maxD (if dataLt x y then y else x) xs) z = false
    cases g : dataLt x y with
    | true =>
      simp only [if_true]
      obtain ⟨h1, h2⟩ := max_top xs y
      refine ⟨List.mem_cons_of_mem _ h1, fun z m => ?_⟩
      rcases List.mem_cons.mp m with e | m
      · refine Bool.eq_false_iff.mpr fun w => ?_
        have := lt_trans' (e ▸ w) g
        exact Bool.noConfusion (this.symm.trans (h2 y List.mem_cons_self))
      · exact h2 z m
    | false =>
      simp only [Bool.false_eq_true, if_false]
      obtain ⟨h1, h2⟩ := max_top xs x
      refine ⟨?_, fun z m => ?_⟩
      · rcases List.mem_cons.mp h1 with e | m
        · rw [e]; exact List.mem_cons_self
        · exact List.mem_cons_of_mem _ (List.mem_cons_of_mem _ m)
      · rcases List.mem_cons.mp m with e | m
        · exact e ▸ h2 x List.mem_cons_self
        · rcases List.mem_cons.mp m with e | m
          · refine Bool.eq_false_iff.mpr fun w => ?_
            rcases lt_neg x (e ▸ w) with w | w
            · exact Bool.noConfusion (w.symm.trans (h2 x List.mem_cons_self))
            · exact Bool.noConfusion (w.symm.trans g)
          · exact h2 z (List.mem_cons_of_mem _ m)
theorem each_get {α β : Type} {R : α → β → Prop} : ∀ {as : List α} {bs : List β}, EachIs R as bs → ∀ {i : Nat} {a : α}, as[i]? = some a → ∃ b, b ∈ bs ∧ R a b
  | _, _, .nil, _, _, h => by cases h
  | _, _, .cons r _, 0, _, h => by cases h; exact ⟨_, List.mem_cons_self, r⟩
  | _, _, .cons _ t, i + 1, _, h => by
    obtain ⟨b, m, r⟩ := each_get t (i := i) (by simpa using h)
    exact ⟨b, List.mem_cons_of_mem _ m, r⟩
theorem depth_le {n : Nat} : ∀ {ps : List PyData}, (∀ p ∈ ps, p.depth ≤ n) → PyData.depthAll ps ≤ n
  | [], _ => by simp [PyData.depthAll]
  | p :: ps, h => by
    rw [PyData.depthAll]
    have h1 := h p List.mem_cons_self
    have h2 := depth_le fun y m => h y (List.mem_cons_of_mem _ m)
    omega
theorem cr_maxO (hc : X.calm = true) (hu : X.A.units + 64 < cLine) : CallR X (.builtin "max") (rMaxO X.K) := fun pins s σ H vs us Q I r ⟨a, L, ev, hs, dp, al, nn, ne, de, q⟩ => by
  subst ev
  obtain rfl := Vals.ref1 r
  obtain ⟨its, rv, ta, sz⟩ := I.list hs
  obtain ⟨z0, L0, rfl⟩ := List.exists_cons_of_ne_nil ne
  have e := each_vals rv
  have er := each_and e (P := fun u z => L2.RelV z.2 u ∧ ∃ as, Reads s.heap u (toP z.1) as) fun u z m ru => ⟨ru, Dp.reads I _ _ _ (dp z m) ru⟩
  obtain ⟨as, rd⟩ := PySem.W.each_readsAll (fun z : D × V => toP z.1) (each_and er fun u z _ h => h.2)
  have nn' : ∀ p ∈ (z0 :: L0).map (fun z => toP z.1), p ≠ .none := fun p m => by
    obtain ⟨z, mz, rfl⟩ := List.mem_map.mp m
    exact nn z mz
  have dd : PyData.depthAll ((z0 :: L0).map fun z => toP z.1) ≤ 60 := depth_le fun p m => by
    obtain ⟨z, mz, rfl⟩ := List.mem_map.mp m
    exact de z mz
  have rd : ReadsAll s.heap its.toArray.toList (toP z0.1 :: L0.map fun z : D × V => toP z.1) as := rd
  refine PySem.W.max_list_data (x := toP z0.1) (xs := L0.map fun z : D × V => toP z.1) (I.ok.hd hc) ta.isList rd ⟨fun x hx y hy => al x hx y hy, nn'⟩ (by have := dd; simp only [List.map_cons] at this; omega) fun i v h1 tk bs gi rm k1 => ?_
  obtain ⟨z, mz, rz, as2, r2⟩ := each_get er (i := i) (a := v) (by simpa using gi)
  obtain ⟨t1, t2⟩ := max_top (L0.map fun z : D × V => toP z.1) (toP z0.1)
  have same : toP z.1 = PySem.W.maxD (toP z0.1) (L0.map fun z : D × V => toP z.1) :=
    PySem.W.alike_unique _ _ v _ _ (al _ (List.mem_map_of_mem mz) _ t1) (PyProof.Rows.Reads.keeps k1 r2) rm
  exact ⟨z.2, H, I.kept (t' := tk) k1, rz, q z mz fun y my => same ▸ t2 _ (List.mem_map_of_mem (f := fun z : D × V => toP z.1) my)⟩
/-- max(xs), xs by value: in layer D -/
def dMaxOf (ds : List D) (S : Store) (Q : DK) : Prop :=
  pureDs ds = true ∧ AllAlike (ds.map toP) ∧ (∀ e ∈ ds, toP e ≠ .none) ∧ ds ≠ [] ∧ (∀ e ∈ ds, (toP e).depth ≤ 60) ∧ ∀ d ∈ ds, (∀ e ∈ ds, dataLt (toP d) (toP e) = false) → Q d S
theorem lc_maxO : LCV K (rMaxO K) dMaxOf := by
  intro p vs H ds S F QD Q q r m ⟨pu, al, nn, ne, de, h⟩ k
  obtain ⟨e1, e2, e3⟩ := zip_reps r
  have e4 : ((ds.zip vs).map fun z => toP z.1) = ds.map toP := by rw [← e1, List.map_map, e1] <;> rfl
  have e5 : ∀ z ∈ ds.zip vs, z.1 ∈ ds := fun z mz => e1 ▸ List.mem_map_of_mem mz
  refine ⟨p, ds.zip vs, rfl, by rw [e2]; exact q, fun z mz => (pyr_toP z.1 (pure_mem pu _ (e5 z mz))).dp m _ _ _ (e3 z mz), e4 ▸ al, fun z mz => nn _ (e5 z mz), fun z => ne (by rw [← e1, z]; rfl), fun z mz => de _ (e5 z mz), fun z mz top => ?_⟩
  refine k z.2 H z.1 S F (e3 z mz) m (Fm.refl S F H) (h z.1 (e5 z mz) fun e me => ?_)
  rw [← e1] at me
  obtain ⟨y, my, rfl⟩ := List.mem_map.mp me
  exact top y my
end
end DL
/-! ## DL19 -/
namespace DL
open PySem PySem.Spec PyProof.Rows L2
/-! ### a list is frozen: from then on it is told by value -/
theorem pe_frz {X : Cx} {e : Expr} {t : TE} (h : PE X e t) : PE X e (fun σ H Q => t σ H (fun v H1 => (∃ l vs, v = .ref l ∧ H1 l = some (.lst vs) ∧ ∀ od, Q v (upd H1 l (.frz od (.lst vs)))) ∨ Q v H1)) := by
  refine ⟨fun pins s σ H Q I hw => ?_⟩
  refine thn (h.run pins s σ H _ I hw) fun u s1 ⟨v, H1, I1, r, q⟩ => ?_
  rcases q with ⟨l, vs, rfl, hl, q⟩ | q
  · obtain ⟨od, I2⟩ := I1.lock hl True.intro
    exact ⟨_, _, I2, r, q od⟩
  · exact ⟨_, _, I1, r, q⟩
section
variable {K : PySem.W.Frag} {H : Hp} {S : Store} {F : Own}
theorem Mod.frz (m : Mod K H S F) {l : Addr} {vs : List V} {od : Obj} (h : H l = some (.lst vs)) (hs : S l = none) (hf : F l = none) : Mod K (upd H l (.frz od (.lst vs))) S F := by
  have n : NoT H l := NoT.lst h
  refine ⟨fun b v q => (m.obj b v q).other (kp_mut n) (fun z => by rw [z, hs] at q; cases q) (by rw [hf]; simp), fun x b q => ?_⟩
  obtain ⟨h1, h2⟩ := m.hid x b q
  exact ⟨h1, h2.upd (fun z => by rw [z, hf] at q; cases q)⟩
theorem kp_frz {l : Addr} {vs : List V} {od : Obj} (h : H l = some (.lst vs)) : Kp H (upd H l (.frz od (.lst vs))) := kp_mut (NoT.lst h)
theorem rep_frz {l : Addr} {vs : List V} {od : Obj} {ds : List D} (h : H l = some (.lst vs)) (r : Reps K H ds vs) : Rep K (upd H l (.frz od (.lst vs))) (.rl ds) (.ref l) :=
  ⟨l, vs, rfl, ⟨od, upd_same⟩, Reps.kp (kp_frz h) _ _ r⟩
end
/-- a list made by value stays told by value -/
def wFz (w : DA) : DE := fun σ S Q E => w σ S (fun xs S1 => Q (.rl xs) S1) E
theorem dpe_fz {X : Cx} {W : WX} {e : Expr} {w : DA} (h : PLd X W e w) : PEd X W e (wFz w) :=
  PE.imp (pe_frz h) fun σ H Q ⟨σD, S, F, QD, ED, sl, m, h, k, kx⟩ => by
    refine ⟨σD, S, F, _, ED, sl, m, h, fun p vs H1 ds S1 F1 h1 h2 h3 n r1 m1 f1 q => .inl ⟨p, vs, rfl, h1, fun od => ?_⟩, kx⟩
    exact k (.ref p) _ (.rl ds) S1 F1 (rep_frz h1 r1) (m1.frz h1 h2 h3) (f1.over n) q
theorem sdel_le {S : Store} {l : Addr} : ∀ a o, sdel S l a = some o → S a = some o := fun a o e => by
  unfold sdel at e
  split at e
  · cases e
  · exact e
theorem sdel_same {S : Store} {l : Addr} : sdel S l l = none := if_pos rfl
theorem sdel_ne {S : Store} {l a : Addr} (h : a ≠ l) : sdel S l a = S a := if_neg h
theorem sdel_none {S : Store} {l : Addr} (h : S l = none) : sdel S l = S := by
  funext a
  unfold sdel
  split
  · rename_i e; rw [e, h]
  · rfl
theorem sdel_sup {S : Store} {l : Addr} {o : MO} (h : S l = none) : sdel (sup S l o) l = S := by
  funext a
  unfold sdel sup
  split
  · rename_i e; rw [e, h]
  · rfl
/-- what is handed back, told by value if it is a list of the store -/
def frzD (d : D) (S : Store) (Q : DK) : Prop := match d with
  | .ref l => (match S l with | some (.lst ds) => Q (.rl ds) (sdel S l) | _ => Q d S)
  | _ => Q d S
theorem frzD_e {d : D} {S : Store} {Q : DK} (h : frzD d S Q) : (∃ l ds, d = .ref l ∧ S l = some (.lst ds) ∧ Q (.rl ds) (sdel S l)) ∨ Q d S := by
  unfold frzD at h
  split at h
  · split at h
    · exact .inl ⟨_, _, rfl, by assumption, h⟩
    · exact .inr h
  · exact .inr h
def wFzR (w : DE) : DE := fun σ S Q E => w σ S (fun d S1 => frzD d S1 Q) E
theorem dpe_fzR {X : Cx} {W : WX} {e : Expr} {w : DE} (h : PEd X W e w) : PEd X W e (wFzR w) :=
  PE.imp (pe_frz h) fun σ H Q ⟨σD, S, F, QD, ED, sl, m, h, k, kx⟩ => by
    refine ⟨σD, S, F, _, ED, sl, m, h, fun v H1 d S1 F1 r1 m1 f1 q => ?_, kx⟩
    rcases frzD_e q with ⟨l, ds, rfl, e1, q⟩ | q
    · cases r1
      obtain ⟨vs, h1, r⟩ := m1.obj _ _ e1
      have fl : F1 l = none := by
        cases z : F1 l with
        | none => rfl
        | some b => have y := (m1.hid l b z).1; rw [e1] at y; cases y
      have m2 : Mod X.K H1 (sdel S1 l) F1 := m1.less sdel_le
      refine .inl ⟨l, vs, rfl, h1, fun od => ?_⟩
      exact k (.ref l) _ (.rl ds) (sdel S1 l) F1 (rep_frz h1 r) (m2.frz h1 sdel_same fl) ((f1.less sdel_le).over (f1.st l (by rw [e1]; simp))) q
    · exact .inr (k v H1 _ S1 F1 r1 m1 f1 q)
/-! ### an instance with what is its own: opened, closed -/
def subS (S : Store) (sub : List (Addr × MO)) : Store := fun x => match sub.lookup x with | some o => some o | none => S x
def opn (S : Store) (a C : Addr) (fs : List (Str × D)) (sub : List (Addr × MO)) : Store := subS (sup S a (.ins C fs)) sub
def unF (F : Own) (sub : List (Addr × MO)) : Own := fun x => match sub.lookup x with | some _ => none | none => F x
def onF (F : Own) (sub : List (Addr × MO)) (a : Addr) : Own := fun x => match sub.lookup x with | some _ => some a | none => F x
def delS (S : Store) (sub : List (Addr × MO)) : Store := fun x => match sub.lookup x with | some _ => none | none => S x
theorem lk_mem {β : Type} : ∀ {sub : List (Addr × β)} {l : Addr} {o : β}, sub.lookup l = some o → (l, o) ∈ sub
  | [], _, _, h => by cases h
  | (x, u) :: r, l, o, h => by
    rw [List.lookup_cons] at h
    split at h
    · rename_i e
      cases h
      rw [eq_of_beq e]
      exact List.mem_cons_self
    · exact List.mem_cons_of_mem _ (lk_mem h)
theorem lk_of {β : Type} : ∀ {sub : List (Addr × β)} {l : Addr} {o : β}, (sub.map (·.1)).Nodup → (l, o) ∈ sub → sub.lookup l = some o
  | [], _, _, _, h => by cases h
  | (x, u) :: r, l, o, nd, h => by
    rw [List.map_cons, List.nodup_cons] at nd
    rcases List.mem_cons.mp h with e | h
    · cases e; simp [List.lookup]
    · have ne : l ≠ x := fun e => nd.1 (e ▸ List.mem_map_of_mem (f := (·.1)) h)
      rw [List.lookup_cons, beq_eq_false_iff_ne.mpr ne]
      exact lk_of nd.2 h
theorem lk_none {β : Type} {sub : List (Addr × β)} {l : Addr} (h : l ∉ sub.map (·.1)) : sub.lookup l = none := by
  cases e : sub.lookup l with
  | none => rfl
  | some o => exact absurd (List.mem_map_of_mem (f := (·.1)) (lk_mem e)) h
section
variable {K : PySem.W.Frag} {H H' : Hp} {S S' : Store} {F F' : Own} {a C : Addr} {fs fs' : List (Str × D)} {sub sub' : List (Addr × MO)}
theorem ObjF.r {o : MO} (h : ObjF K H a o) : ObjR K H F a o := by
  cases o <;> first | exact h | exact h.elim
theorem own_open (m : Mod K H S F) (e : S a = some (.own C fs sub)) : (sub.map (·.1)).Nodup ∧ (∀ l o, (l, o) ∈ sub → l ≠ a ∧ S l = none) ∧ Mod K H (opn S a C fs sub) (unF F sub) ∧ Fm S F H (opn S a C fs sub) (unF F sub) H := by
  obtain ⟨h1, nd, h2⟩ := m.obj _ _ e
  have hs : ∀ l o, (l, o) ∈ sub → l ≠ a ∧ S l = none := fun l o hm => by
    have z := (m.hid l a (h2 l o hm).2).1
    exact ⟨(fun q => by rw [q, e] at z; cases z), z⟩
  refine ⟨nd, hs, ⟨fun b o q => ?_, fun x b q => ?_⟩, ⟨fun _ _ q _ _ => q, fun b q => ?_, fun b q => ?_⟩⟩
  · unfold opn subS at q
    split at q
    · rename_i u hu
      cases q
      exact ObjF.r (h2 _ _ (lk_mem hu)).1
    · rename_i hu
      by_cases hb : b = a
      · subst hb
        rw [sup_same] at q
        cases q
        exact ObjF.r h1
      · rw [sup_ne hb] at q
        have r := m.obj _ _ q
        have keep : ∀ l, F l = some b → unF F sub l = some b := fun l hl => by
          unfold unF
          cases z : sub.lookup l with
          | none => exact hl
          | some u => rw [(h2 _ _ (lk_mem z)).2] at hl; exact absurd (Option.some.inj hl).symm hb
        cases o with
        | box =>
          obtain ⟨l', z', ns', g1, g2, g3, g4⟩ := r
          exact ⟨l', z', ns', g1, g2, keep _ g3, g4⟩
        | own C2 fs2 sub2 =>
          obtain ⟨r1, nd2, r2⟩ := r
          exact ⟨r1, nd2, fun x u hm => ⟨(r2 x u hm).1, keep _ (r2 x u hm).2⟩⟩
        | _ => exact r
  · unfold unF at q
    split at q
    · cases q
    · rename_i hx
      obtain ⟨g1, g2⟩ := m.hid _ _ q
      refine ⟨?_, g2⟩
      unfold opn subS
      rw [hx]
      show sup S a _ x = none
      rw [sup_ne (fun z => by rw [z, e] at g1; cases g1)]
      exact g1
  · unfold opn subS at q
    split at q
    · rename_i u hu
      exact .inr (.inl (by rw [(h2 _ _ (lk_mem hu)).2]; simp))
    · by_cases hb : b = a
      · subst hb; exact .inl (by rw [e]; simp)
      · rw [sup_ne hb] at q; exact .inl q
  · unfold unF at q
    split at q
    · exact absurd rfl q
    · exact .inr (.inl q)
def flatO : MO → Bool
  | .lst _ => true | .dic _ => true | .dit _ => true | .ins _ _ => true | _ => false
theorem own_close (m : Mod K H' S' F') (ha : S' a = some (.ins C fs')) (nd : (sub'.map (·.1)).Nodup) (hs : ∀ l o, (l, o) ∈ sub' → S' l = some o ∧ flatO o = true ∧ l ≠ a) (f : Fm S F H S' F' H') :
    Mod K H' (sup (delS S' sub') a (.own C fs' sub')) (onF F' sub' a) ∧ Fm S F H (sup (delS S' sub') a (.own C fs' sub')) (onF F' sub' a) H' := by
  have fz : ∀ x, S' x ≠ none → F' x = none := fun x hx => by
    cases q : F' x with
    | none => rfl
    | some b => exact absurd (m.hid _ _ q).1 hx
  have flat : ∀ {x : Addr} {o : MO}, ObjR K H' F' x o → flatO o = true → ObjF K H' x o := fun {x o} r h => by
    cases o <;> first | exact r | cases h
  refine ⟨⟨fun b o q => ?_, fun x b q => ?_⟩, ⟨f.keep, fun b q => ?_, fun b q => ?_⟩⟩
  · by_cases hb : b = a
    · subst hb
      rw [sup_same] at q
      cases q
      refine ⟨m.obj _ _ ha, nd, fun l o hm => ?_⟩
      obtain ⟨g1, g2, g3⟩ := hs l o hm
      refine ⟨flat (m.obj _ _ g1) g2, ?_⟩
      unfold onF
      rw [lk_of nd hm]
    · rw [sup_ne hb] at q
      unfold delS at q
      split at q
      · cases q
      · rename_i hn
        have r := m.obj _ _ q
        have keep : ∀ l, F' l = some b → onF F' sub' a l = some b := fun l hl => by
          unfold onF
          cases z : sub'.lookup l with
          | none => exact hl
          | some u => rw [fz l (by rw [(hs _ _ (lk_mem z)).1]; simp)] at hl; cases hl
        cases o with
        | box =>
          obtain ⟨l', z', ns', g1, g2, g3, g4⟩ := r
          exact ⟨l', z', ns', g1, g2, keep _ g3, g4⟩
        | own C2 fs2 sub2 =>
          obtain ⟨r1, nd2, r2⟩ := r
          exact ⟨r1, nd2, fun x u hm => ⟨(r2 x u hm).1, keep _ (r2 x u hm).2⟩⟩
        | _ => exact r
  · unfold onF at q
    split at q
    · rename_i u hu
      cases q
      obtain ⟨g1, g2, g3⟩ := hs _ _ (lk_mem hu)
      refine ⟨?_, (m.obj _ _ g1).mut⟩
      rw [sup_ne g3]
      unfold delS
      rw [hu]
    · rename_i hu
      obtain ⟨g1, g2⟩ := m.hid _ _ q
      refine ⟨?_, g2⟩
      rw [sup_ne (fun z => by rw [z, ha] at g1; cases g1)]
      unfold delS
      rw [hu]
      exact g1
  · refine f.st b ?_
    by_cases hb : b = a
    · subst hb; rw [ha]; simp
    · rw [sup_ne hb] at q
      unfold delS at q
      split at q
      · exact absurd rfl q
      · exact q
  · unfold onF at q
    split at q
    · rename_i u hu
      exact f.st b (by rw [(hs _ _ (lk_mem hu)).1]; simp)
    · exact f.hd b q
end
/-- the end of a method: what was opened is closed again; of the rest S'' tells what still matters -/
structure Cls2 (a C : Addr) (fs' : List (Str × D)) (sub' : List (Addr × MO)) (S' S'' : Store) : Prop where
  at_ : S' a = some (.ins C fs')
  nd : (sub'.map (·.1)).Nodup
  sub : ∀ l o, (l, o) ∈ sub' → S' l = some o ∧ flatO o = true ∧ l ≠ a
  out : ∀ x o, S'' x = some o → (x = a ∧ o = .own C fs' sub') ∨ (x ≠ a ∧ x ∉ sub'.map (·.1) ∧ S' x = some o)
/-- a promise of an opened self, closed -/
def closeSp (sp : SpD) : SpD := fun ds S Q E => ∃ a C fs sub ds', ds = .ref a :: ds' ∧ S a = some (.own C fs sub) ∧ ((sub.map (·.1)).Nodup → (∀ l o, (l, o) ∈ sub → l ≠ a ∧ S l = none) →
  sp ds (opn S a C fs sub) (fun d S' => ∃ fs' sub' S'', Cls2 a C fs' sub' S' S'' ∧ Q d S'') (fun e S' => ∃ fs' sub' S'', Cls2 a C fs' sub' S' S'' ∧ E e S''))
theorem cls2_less {S' S'' : Store} {a C : Addr} {fs' : List (Str × D)} {sub' : List (Addr × MO)} (c : Cls2 a C fs' sub' S' S'') : ∀ x o, S'' x = some o → sup (delS S' sub') a (.own C fs' sub') x = some o := fun x o e => by
  rcases c.out x o e with ⟨rfl, rfl⟩ | ⟨h1, h2, h3⟩
  · exact sup_same
  · rw [sup_ne h1]
    unfold delS
    rw [lk_none h2]
    exact h3
theorem upSp_close {K : PySem.W.Frag} {mg : Str → Option Value} {sp : SpD} {vs : List V} {H : Hp} {Q : VK} {E : XK} (h : upSp K mg (closeSp sp) vs H Q E) : upSp K mg sp vs H Q E := by
  obtain ⟨ds, S, F, QD, ED, r, m, ⟨a, C, fs, sub, ds', e1, e2, h⟩, kq, kx⟩ := h
  obtain ⟨nd, hs, m1, f1⟩ := own_open m e2
  refine ⟨ds, _, _, _, _, r, m1, h nd hs, fun v H' d S' F' rr m' f' ⟨fs', sub', S'', c, q⟩ => ?_, fun cls dd H' e S' F' rr m' f' ⟨fs', sub', S'', c, q⟩ => ?_⟩
  · obtain ⟨m2, f2⟩ := own_close m' c.at_ c.nd c.sub (f1.trans f')
    exact kq v H' d _ _ rr (m2.less (cls2_less c)) (f2.less (cls2_less c)) q
  · obtain ⟨m2, f2⟩ := own_close m' c.at_ c.nd c.sub (f1.trans f')
    exact kx cls dd H' e _ _ rr (m2.less (cls2_less c)) (f2.less (cls2_less c)) q
end DL
/-! ## DL20 -/
namespace DL
open PySem PySem.Spec PyProof.Rows L2
/-! ### lists, of the store or by value -/
def withL (d : D) (S : Store) (P : List D → Prop) : Prop := match lsOf S d with | some xs => P xs | none => False
theorem withL_rl {xs : List D} {S : Store} {P : List D → Prop} : withL (.rl xs) S P = P xs := rfl
theorem withL_ref {a : Addr} {xs : List D} {S : Store} {P : List D → Prop} (h : S a = some (.lst xs)) : withL (.ref a) S P = P xs := by
  have e : lsOf S (.ref a) = some xs := by simp only [lsOf, h]
  simp only [withL, e]
theorem withL_e {d : D} {S : Store} {P : List D → Prop} (h : withL d S P) : ∃ xs, lsOf S d = some xs ∧ P xs := by
  unfold withL at h
  split at h
  · exact ⟨_, by assumption, h⟩
  · exact h.elim
/-- a list that may be read: at p, of vs -/
def LsM (H : Hp) (p : Addr) (vs : List V) : Prop := H p = some (.lst vs) ∨ ∃ o, H p = some (.frz o (.lst vs))
theorem LsM.sq {K : PySem.W.Frag} {H : Hp} {p : Addr} {vs : List V} (h : LsM H p vs) : SqL K H p vs := .inl h
theorem lsOf_rep {K : PySem.W.Frag} {H : Hp} {S : Store} {F : Own} {d : D} {v : V} {xs : List D} (m : Mod K H S F) (r : Rep K H d v) (e : lsOf S d = some xs) : ∃ p vs, v = .ref p ∧ LsM H p vs ∧ Reps K H xs vs := by
  unfold lsOf at e
  split at e
  · cases e
    obtain ⟨p, vs, rfl, t, r⟩ := r
    exact ⟨p, vs, rfl, .inr t, r⟩
  · split at e
    · rename_i q
      cases e
      cases r
      obtain ⟨vs, h1, h2⟩ := m.obj _ _ q
      exact ⟨_, vs, rfl, .inl h1, h2⟩
    · cases e
  · cases e
/-- a value that is a list, read by value -/
def wDerL (a : DE) : DA := fun σ S Q E => a σ S (fun d S1 => withL d S1 fun xs => Q xs S1) E
section
variable {X : Cx} {W : WX} {a b c e : Expr} {es : List Expr} {w wa wb : DE} {ws vs : DA} {pos p2 : Pos}
theorem dpv_ls (h : PEd X W e w) : PVd X W e (wDerL w) :=
  PE.imp h fun σ H Q ⟨σD, S, F, QD, ED, sl, m, h, k, kx⟩ => by
    refine ⟨σD, S, F, _, ED, sl, m, h, fun v H1 d S1 F1 r1 m1 f1 h1 => ?_, kx⟩
    obtain ⟨xs, e1, q⟩ := withL_e h1
    obtain ⟨p, vs, rfl, g1, g2⟩ := lsOf_rep m1 r1 e1
    exact k p vs H1 xs S1 F1 g1.sq g2 m1 f1 q
/-! ### + and * -/
theorem OpR.or {f : Value → Value → Sem Value} {r r' : R2} (h : OpR X f r) (h' : OpR X f r') : OpR X f (fun x y H Q => r x y H Q ∨ r' x y H Q) := fun pins s σ H x y v u Q I rx ry q => by
  rcases q with q | q
  · exact h pins s σ H x y v u Q I rx ry q
  · exact h' pins s σ H x y v u Q I rx ry q
def dAddX : RD2 := fun d e S Q => match d, e with
  | .int i, .int j => Q (.int (i + j)) S
  | .str x, .str y => x.length + y.length ≤ sizeLine ∧ Q (.str (x ++ y)) S
  | .tup xs, .tup ys => xs.length + ys.length ≤ sizeLine ∧ Q (.tup (xs ++ ys)) S
  | _, _ => False
theorem op_addX : OpR X (binaryOp .Add) (fun x y H Q => rI0 (fun i j => .int (i + j)) x y H Q ∨ (∃ i j, x = .str i ∧ y = .str j ∧ i.length + j.length ≤ sizeLine ∧ Q (.str (i ++ j)) H) ∨ rCatA X.K x y H Q) := OpR.or op_add (OpR.or op_add_str op_catA)
theorem lr_addX {K : PySem.W.Frag} : LR2 K (fun x y H Q => rI0 (fun i j => .int (i + j)) x y H Q ∨ (∃ i j, x = .str i ∧ y = .str j ∧ i.length + j.length ≤ sizeLine ∧ Q (.str (i ++ j)) H) ∨ rCatA K x y H Q) dAddX := by
  intro x y H d e S F QD Q rx ry m h k
  cases d <;> cases e <;> first | exact h.elim | skip
  · exact .inl (lr_int _ _ _ _ _ _ _ _ _ rx ry m h k)
  · cases rx; cases ry
    exact .inr (.inl ⟨_, _, rfl, rfl, h.1, k (.str _) H (.str _) S F rfl m (Fm.refl S F H) h.2⟩)
  · exact .inr (.inr (lr_cat _ _ _ _ _ _ _ _ _ rx ry m h k))
def dMulX : RD2 := fun d e S Q => match d, e with
  | .int i, .int j => CMul i j ∧ Q (.int (i * j)) S
  | .tup xs, .int k => xs ≠ [] ∧ 2 ≤ k ∧ k ≤ 1000 ∧ xs.length ≤ 1000 ∧ Q (.tup (List.replicate k.toNat xs).flatten) S
  | _, _ => False
theorem op_mulT : OpR X (binaryOp .Mult) (fun x y H Q => rI CMul (fun i j => .int (i * j)) x y H Q ∨ rRepT X.K x y H Q) := OpR.or op_mul op_repT
theorem lr_mulX {K : PySem.W.Frag} : LR2 K (fun x y H Q => rI CMul (fun i j => .int (i * j)) x y H Q ∨ rRepT K x y H Q) dMulX := by
  intro x y H d e S F QD Q rx ry m h k
  cases d <;> cases e <;> first | exact h.elim | skip
  · exact .inl (lr_intC _ _ _ _ _ _ _ _ _ rx ry m h k)
  · exact .inr (lr_rep _ _ _ _ _ _ _ _ _ rx ry m h k)
/-! ### places -/
def dIxX : RD2 := fun d e S Q => match d, e with
  | .tup xs, .int i => (match atI xs i with | some v => Q v S | none => False)
  | .rl xs, .int i => (match atI xs i with | some v => Q v S | none => False)
  | .ref a, .int i => (match S a with | some (.lst xs) => (match atI xs i with | some v => Q v S | none => False) | _ => False)
  | .str z, .int i => z.length ≤ sizeLine ∧ (match atI z.cps.toList i with | some c => Q (.str ⟨#[c]⟩) S | none => False)
  | _, _ => False
theorem lr_ixX {K : PySem.W.Frag} : LR2 K (rIx K) dIxX := by
  intro x y H d e S F QD Q rx ry m h k
  by_cases hr : ∃ xs, d = .rl xs
  · obtain ⟨xs, rfl⟩ := hr
    cases e <;> first | exact h.elim | skip
    rename_i i
    cases ry
    obtain ⟨a, vs, rfl, t, r⟩ := rx
    unfold dIxX at h
    dsimp only at h
    split at h
    · rename_i v q
      obtain ⟨w, h1, h2⟩ := r.atI q
      exact .inl ⟨a, vs, i, w, rfl, rfl, SqF.sq (SqZ.sf t), h1, k _ H _ S F h2 m (Fm.refl S F H) h⟩
    · exact h.elim
  · refine lr_ix x y H d e S F QD Q rx ry m ?_ k
    cases d <;> cases e <;> first | exact h.elim | exact h | exact absurd ⟨_, rfl⟩ hr
theorem dpe_ixX (ha : PEd X W a wa) (hb : PEd X W b wb) (hs : PlainIx b) : PEd X W (.Subscript a b pos) (wOp dIxX wa wb) := PE.imp (pe_ix ix_seq ha hb hs) fun _ _ _ h => op_imp lr_ixX h
/-! ### slices -/
def dSlX (d : D) (lo hi : Option Int) (S : Store) (Q : DK) : Prop := match d with
  | .tup xs => Q (.tup (cutD xs lo hi)) S
  | .str z => z.length ≤ sizeLine ∧ Q (.str (cutS z lo hi)) S
  | _ => False
def wSlX (w : DE) (l u : DO) : DE := fun σ S Q E => w σ S (fun d S1 => l σ S1 (fun lo S2 => u σ S2 (fun hi S3 => dSlX d lo hi S3 Q) E) E) E
theorem dpe_slX {lo hi : Option Expr} {l u : DO} (he : PEd X W e w) (hl : POd X W lo l) (hu : POd X W hi u) : PEd X W (.Subscript e (.Slice lo hi none p2) pos) (wSlX w l u) :=
  PE.imp (pe_slice (SlR.or sl_tupA sl_str) he hl hu) fun σ H Q ⟨σD, S, F, QD, ED, sl, m, h, k, kx⟩ => by
    refine ⟨σD, S, F, _, ED, sl, m, h, fun v H1 d S1 F1 r1 m1 f1 h1 => ?_, kx⟩
    refine ⟨σD, S1, F1, _, ED, sl.kp (f1.kp m), m1, h1, fun lo H2 S2 F2 m2 f2 h2 => ?_, kx.after f1⟩
    have f12 := f1.trans f2
    refine ⟨σD, S2, F2, _, ED, sl.kp (f12.kp m), m2, h2, fun hi H3 S3 F3 m3 f3 h3 => ?_, kx.after f12⟩
    have f123 := f12.trans f3
    cases d <;> first | exact h3.elim | skip
    · cases r1
      exact .inr ⟨_, rfl, h3.1, k (.str _) H3 (.str _) S3 F3 rfl m3 f123 h3.2⟩
    · rename_i xs
      obtain ⟨a, vs, rfl, ta, ra⟩ := Rep.kp ((f2.trans f3).kp m1) _ _ r1
      refine .inl ⟨a, vs, rfl, ta, fun q => ?_, fun q p hp => ?_⟩
      · refine k (.ref a) H3 (.tup (cutD xs lo hi)) S3 F3 ⟨a, vs, rfl, ta, ?_⟩ m3 f123 h3
        have e : cutD xs lo hi = xs := by
          unfold cutD
          rw [ra.length, q.1, q.2]
          simp [← ra.length]
        rw [e]; exact ra
      · exact k (.ref p) _ (.tup (cutD xs lo hi)) S3 F3 ⟨p, _, rfl, .inl (.inl upd_same), Reps.kp (kp_new hp) _ _ (ra.cut lo hi)⟩ (m3.laid hp) (f123.trans (Fm.laid hp)) h3
/-- xs[lo:hi] of a list -/
def wSlL2 (w : DE) (l u : DO) : DA := fun σ S Q E => w σ S (fun d S1 => l σ S1 (fun lo S2 => u σ S2 (fun hi S3 => withL d S3 fun xs => Q (cutD xs lo hi) S3) E) E) E
theorem dpl_slX {lo hi : Option Expr} {l u : DO} (he : PEd X W e w) (hl : POd X W lo l) (hu : POd X W hi u) : PLd X W (.Subscript e (.Slice lo hi none p2) pos) (wSlL2 w l u) :=
  PE.imp (pe_slice sl_list he hl hu) fun σ H Q ⟨σD, S, F, QD, ED, sl, m, h, k, kx⟩ => by
    refine ⟨σD, S, F, _, ED, sl, m, h, fun v H1 d S1 F1 r1 m1 f1 h1 => ?_, kx⟩
    refine ⟨σD, S1, F1, _, ED, sl.kp (f1.kp m), m1, h1, fun lo H2 S2 F2 m2 f2 h2 => ?_, kx.after f1⟩
    have f12 := f1.trans f2
    refine ⟨σD, S2, F2, _, ED, sl.kp (f12.kp m), m2, h2, fun hi H3 S3 F3 m3 f3 h3 => ?_, kx.after f12⟩
    obtain ⟨xs, e1, q⟩ := withL_e h3
    obtain ⟨p, vs, rfl, g1, g2⟩ := lsOf_rep m3 (Rep.kp ((f2.trans f3).kp m1) _ _ r1) e1
    exact ⟨p, vs, rfl, g1.sq, fun l hl => end_lst k m3 (f12.trans f3) (g2.cut lo hi) q hl⟩
/-! ### + and * of lists -/
def rCat2 : R2 := fun x y H Q => ∃ l b xs zs, x = .ref l ∧ y = .ref b ∧ LsM H l xs ∧ LsM H b zs ∧ xs.length + zs.length ≤ sizeLine ∧ ∀ p, H p = none → Q (.ref p) (upd H p (.lst (xs ++ zs)))
theorem Inv.lsm {pins : List (Addr × Obj)} {σ : L2.St} {H : Hp} {s : Shared} {l : Addr} {xs : List V} (I : Inv X pins σ H s) (hH : LsM H l xs) : xs.length ≤ sizeLine ∧ ∃ (its : List Value) (n : Nat), Vals xs its ∧ xs.length = its.length ∧ s.heap.get? l = some { cls := .type "list", data := .seq its.toArray n } := by
  obtain ⟨z, its, n, r, e⟩ := (show Rd H l (.lst xs) from hH).ok I.hok
  exact ⟨z, its, n, r, r.length, e⟩
theorem op_cat2 : OpR X (binaryOp .Add) rCat2 := by
  intro pins s σ H x y v u Q I rx ry h
  obtain ⟨l, b, xs, zs, rfl, rfl, hH, hB, hz, q⟩ := h
  cases rx
  cases ry
  obtain ⟨z, its, n, r, hl, e⟩ := Inv.lsm I hH
  obtain ⟨z2, its2, n2, r2, hl2, e2⟩ := Inv.lsm I hB
  refine PySem.P.add_list e e2 ?_ (by rw [List.size_toArray, List.size_toArray]; omega)
  rw [show its.toArray ++ its2.toArray = (its ++ its2).toArray by simp]
  exact ⟨.ref _, _, I.lnew (t' := s.toks) (r.append r2) (by rw [List.length_append]; omega), rfl, q _ I.fresh⟩
/-- a side of a +: a list just made, or a value that is a list -/
inductive Side where
  | new (w : DA) | val (w : DE)
def wSide : Side → DSt → Store → (D → Store → Prop) → XE → Prop
  | .new w, σ, S, Q, E => w σ S (fun xs S1 => Q (.rl xs) S1) E
  | .val w, σ, S, Q, E => w σ S Q E
structure PSide (X : Cx) (W : WX) (e : Expr) (s : Side) : Prop where
  run : PEd X W e (fun σ S Q E => wSide s σ S Q E)
theorem psd_new (h : PLd X W e ws) : PSide X W e (.new ws) := ⟨dpe_fz h⟩
theorem psd_val (h : PEd X W e w) : PSide X W e (.val w) := ⟨h⟩
def wCatX (a b : Side) : DA := fun σ S Q E => wSide a σ S (fun d S1 => wSide b σ S1 (fun d2 S2 => withL d S2 fun xs => withL d2 S2 fun ys => xs.length + ys.length ≤ sizeLine ∧ Q (xs ++ ys) S2) E) E
theorem dpl_catX {sa sb : Side} (ha : PSide X W a sa) (hb : PSide X W b sb) : PLd X W (.BinOp a .Add b pos) (wCatX sa sb) :=
  PE.imp (pe_op op_cat2 ha.run hb.run) fun σ H Q ⟨σD, S, F, QD, ED, sl, m, h, k, kx⟩ => by
    refine ⟨σD, S, F, _, ED, sl, m, h, fun v H1 d S1 F1 r1 m1 f1 h1 => ?_, kx⟩
    refine ⟨σD, S1, F1, _, ED, sl.kp (f1.kp m), m1, h1, fun v2 H2 d2 S2 F2 r2 m2 f2 h2 => ?_, kx.after f1⟩
    obtain ⟨xs, e1, h3⟩ := withL_e h2
    obtain ⟨ys, e2, h4, h5⟩ := withL_e h3
    obtain ⟨p, vs, rfl, g1, g2⟩ := lsOf_rep m2 (Rep.kp (f2.kp m1) _ _ r1) e1
    obtain ⟨p2, vs2, rfl, g3, g4⟩ := lsOf_rep m2 r2 e2
    exact ⟨p, p2, vs, vs2, rfl, rfl, g1, g3, by rw [← g2.length, ← g4.length]; exact h4, fun l hl => end_lst k m2 (f1.trans f2) (g2.append g4) h5 hl⟩
/-! ### data -/
mutual
def dataD : D → Option PyData
  | .non => some .none | .bl b => some (.bool b) | .int i => some (.int i) | .str x => some (.str x)
  | .tup ds => (dataDs ds).map .tuple
  | .rl ds => (dataDs ds).map .list
  | _ => none
def dataDs : List D → Option (List PyData)
  | [] => some []
  | d :: ds => match dataD d, dataDs ds with | some p, some ps => some (p :: ps) | _, _ => none
end
theorem dataDs_cons {d : D} {ds : List D} {p : PyData} {ps : List PyData} (h : dataD d = some p) (h2 : dataDs ds = some ps) : dataDs (d :: ds) = some (p :: ps) := by
  rw [dataDs, h, h2]
theorem dataDs_e {d : D} {ds : List D} {ps : List PyData} (h : dataDs (d :: ds) = some ps) : ∃ p pr, ps = p :: pr ∧ dataD d = some p ∧ dataDs ds = some pr := by
  rw [dataDs] at h
  split at h
  · cases h
    exact ⟨_, _, rfl, by assumption, by assumption⟩
  · cases h
section
variable {K : PySem.W.Frag} {H : Hp}
mutual
theorem data_dp : ∀ (d : D) (v : V) (p : PyData), dataD d = some p → Rep K H d v → Dp K H v p
  | .non, _, _, h, r => by cases r; rw [dataD] at h; cases h; exact .non
  | .bl b, _, _, h, r => by cases r; rw [dataD] at h; cases h; exact .bl b
  | .int i, _, _, h, r => by cases r; rw [dataD] at h; cases h; exact .int i
  | .str x, _, _, h, r => by cases r; rw [dataD] at h; cases h; exact .str x
  | .tup ds, _, _, h, r => by
    rw [dataD] at h
    obtain ⟨ps, h1, rfl⟩ := Option.map_eq_some_iff.mp h
    obtain ⟨q, vs, rfl, t, r⟩ := r
    exact .tup t (data_dps ds vs ps h1 r)
  | .rl ds, _, _, h, r => by
    rw [dataD] at h
    obtain ⟨ps, h1, rfl⟩ := Option.map_eq_some_iff.mp h
    obtain ⟨q, vs, rfl, t, r⟩ := r
    exact .lst (SqF.sq (SqZ.sf t)) (data_dps ds vs ps h1 r)
  | .ref _, _, _, h, _ => by simp only [dataD] at h; cases h
  | .fn _ _, _, _, h, _ => by simp only [dataD] at h; cases h
  | .fnS _ _ _, _, _, h, _ => by simp only [dataD] at h; cases h
  | .kl _, _, _, h, _ => by simp only [dataD] at h; cases h
theorem data_dps : ∀ (ds : List D) (vs : List V) (ps : List PyData), dataDs ds = some ps → Reps K H ds vs → DpAll K H vs ps
  | [], _, _, h, r => by cases r; rw [dataDs] at h; cases h; exact .nil
  | d :: ds, _, ps, h, r => by
    obtain ⟨p, pr, rfl, h1, h2⟩ := dataDs_e h
    obtain ⟨v, vr, rfl, r1, r2⟩ := r
    exact .cons (data_dp d v p h1 r1) (data_dps ds vr pr h2 r2)
end
end
/-- a list of the store too -/
def dataS (S : Store) : D → Option PyData
  | .ref a => match S a with | some (.lst ds) => (dataDs ds).map .list | _ => none
  | d => dataD d
theorem dataS_dp {K : PySem.W.Frag} {H : Hp} {S : Store} {F : Own} (m : Mod K H S F) {d : D} {v : V} {p : PyData} (h : dataS S d = some p) (r : Rep K H d v) : Dp K H v p := by
  unfold dataS at h
  split at h
  · split at h
    · rename_i a ds e
      obtain ⟨ps, h1, rfl⟩ := Option.map_eq_some_iff.mp h
      cases r
      obtain ⟨vs, g1, g2⟩ := m.obj _ _ e
      exact .lst (SqL.of g1) (data_dps ds vs ps h1 g2)
    · cases h
  · exact data_dp _ _ _ h r
/-! ### ==, !=, in -/
def eqB (neg : Bool) (b : Bool) : Bool := if neg then !b else b
def dEqX (neg : Bool) : RD2 := fun d e S Q => ∃ p q, dataS S d = some p ∧ dataS S e = some q ∧ SeqAt.shaped p = true ∧ SeqAt.shaped q = true ∧ Q (.bl (eqB neg (PyData.eqv p q))) S
theorem dEqX_e {neg : Bool} {d e : D} {S : Store} {Q : DK} (h : dEqX neg d e S Q) : ∃ p q, dataS S d = some p ∧ dataS S e = some q ∧ SeqAt.shaped p = true ∧ SeqAt.shaped q = true ∧ Q (.bl (eqB neg (PyData.eqv p q))) S := h
theorem lr_eqX {K : PySem.W.Frag} : LR2 K (rEqD K) (dEqX false) := by
  intro x y H d e S F QD Q rx ry m h k
  obtain ⟨p, q, h1, h2, s1, s2, h⟩ := dEqX_e h
  exact ⟨p, q, dataS_dp m h1 rx, dataS_dp m h2 ry, s1, s2, k (.bl _) H (.bl _) S F rfl m (Fm.refl S F H) h⟩
theorem lr_neX {K : PySem.W.Frag} : LR2 K (rNeD K) (dEqX true) := by
  intro x y H d e S F QD Q rx ry m h k
  obtain ⟨p, q, h1, h2, s1, s2, h⟩ := dEqX_e h
  exact ⟨p, q, dataS_dp m h1 rx, dataS_dp m h2 ry, s1, s2, k (.bl _) H (.bl _) S F rfl m (Fm.refl S F H) h⟩
/-- x in a list of data -/
def dInD (neg : Bool) : RD2 := fun d e S Q => ∃ p qs, dataS S d = some p ∧ dataS S e = some (.list qs) ∧ SeqAt.shaped p = true ∧ SeqAt.shaped (.list qs) = true ∧ Q (.bl (eqB neg (qs.any fun z => PyData.eqv z p))) S
theorem dInD_e {neg : Bool} {d e : D} {S : Store} {Q : DK} (h : dInD neg d e S Q) : ∃ p qs, dataS S d = some p ∧ dataS S e = some (.list qs) ∧ SeqAt.shaped p = true ∧ SeqAt.shaped (.list qs) = true ∧ Q (.bl (eqB neg (qs.any fun z => PyData.eqv z p))) S := h
theorem lr_inD {K : PySem.W.Frag} : LR2 K (rInD K) (dInD false) := by
  intro x y H d e S F QD Q rx ry m h k
  obtain ⟨p, qs, h1, h2, s1, s2, h⟩ := dInD_e h
  exact ⟨p, qs, dataS_dp m h1 rx, dataS_dp m h2 ry, s1, s2, k (.bl _) H (.bl _) S F rfl m (Fm.refl S F H) h⟩
theorem lr_ninD {K : PySem.W.Frag} : LR2 K (rNotInD K) (dInD true) := by
  intro x y H d e S F QD Q rx ry m h k
  obtain ⟨p, qs, h1, h2, s1, s2, h⟩ := dInD_e h
  exact ⟨p, qs, dataS_dp m h1 rx, dataS_dp m h2 ry, s1, s2, k (.bl _) H (.bl _) S F rfl m (Fm.refl S F H) h⟩
end
end DL
/-! ## DL21 -/
namespace DL
open PySem PySem.Spec PyProof.Rows L2
/-! ### fields -/
def putFD (f : Str) (v : D) : List (Str × D) → List (Str × D)
  | [] => [(f, v)]
  | (g, x) :: r => if g = f then (g, v) :: r else (g, x) :: putFD f v r
def fldD (C : Addr) (f : Str) (d : D) (S : Store) (Q : DK) : Prop := match d with
  | .ref a => (match S a with
    | some (.ins C' fs) => C' = C ∧ (match fs.lookup f with | some x => Q x S | none => False)
    | some (.own C' fs _) => C' = C ∧ (match fs.lookup f with | some x => Q x S | none => False)
    | _ => False)
  | _ => False
/-- an instance of C at a, open or closed -/
def InsAt (S : Store) (a C : Addr) (fs : List (Str × D)) : Prop := S a = some (.ins C fs) ∨ ∃ sub, S a = some (.own C fs sub)
theorem fldD_e {C : Addr} {f : Str} {d : D} {S : Store} {Q : DK} (h : fldD C f d S Q) : ∃ a fs x, d = .ref a ∧ InsAt S a C fs ∧ fs.lookup f = some x ∧ Q x S := by
  unfold fldD at h
  split at h
  · split at h
    · obtain ⟨rfl, h⟩ := h
      split at h
      · exact ⟨_, _, _, rfl, .inl (by assumption), by assumption, h⟩
      · exact h.elim
    · obtain ⟨rfl, h⟩ := h
      split at h
      · exact ⟨_, _, _, rfl, .inr ⟨_, by assumption⟩, by assumption, h⟩
      · exact h.elim
    · exact h.elim
  · exact h.elim
section
variable {K : PySem.W.Frag} {H : Hp} {S : Store} {F : Own}
theorem InsAt.obj (m : Mod K H S F) {a C : Addr} {fs : List (Str × D)} (h : InsAt S a C fs) : ∃ dx vs, H a = some (.ins C dx vs) ∧ RepF K H fs vs := by
  rcases h with h | ⟨sub, h⟩
  · exact m.obj _ _ h
  · exact (m.obj _ _ h).1
theorem RepF.lk {fs : List (Str × D)} {vs : List (Str × V)} (r : RepF K H fs vs) (f : Str) : (∀ x, fs.lookup f = some x → ∃ v, vs.lookup f = some v ∧ Rep K H x v) ∧ (fs.lookup f = none → vs.lookup f = none) := by
  unfold RepF at r
  induction r with
  | nil => exact ⟨(fun x h => by cases h), fun _ => rfl⟩
  | @cons p q _ _ r t ih =>
    obtain ⟨g, x⟩ := p
    obtain ⟨g', v⟩ := q
    obtain ⟨e, r⟩ := r
    cases e
    rw [List.lookup_cons, List.lookup_cons]
    split
    · exact ⟨(fun y h => by cases h; exact ⟨v, rfl, r⟩), fun h => by cases h⟩
    · exact ih
theorem RepF.len {α : Type} {fs : List (α × D)} {vs : List (α × V)} (r : RepF K H fs vs) : fs.length = vs.length := by
  unfold RepF at r
  exact Paired.length r
theorem RepF.putF {fs : List (Str × D)} {vs : List (Str × V)} {f : Str} {x : D} {v : V} (r : RepF K H fs vs) (rx : Rep K H x v) : RepF K H (putFD f x fs) (L2.putF f v vs) := by
  unfold RepF at r ⊢
  induction r with
  | nil => exact .cons ⟨rfl, rx⟩ .nil
  | @cons p q _ _ r t ih =>
    obtain ⟨g, x'⟩ := p
    obtain ⟨g', v'⟩ := q
    obtain ⟨e, r⟩ := r
    cases e
    unfold putFD L2.putF
    split
    · exact .cons ⟨rfl, rx⟩ t
    · exact .cons ⟨rfl, r⟩ ih
theorem lay_ins {a C dx : Addr} {fs fs' : List (Str × D)} {vs : List (Str × V)} (m : Mod K H S F) (e : S a = some (.ins C fs)) (r : RepF K H fs' vs) : Mod K (upd H a (.ins C dx vs)) (sup S a (.ins C fs')) F :=
  m.put (u' := .ins C fs') e ⟨dx, vs, upd_same, RepF.kp (kp_mut (m.obj _ _ e).mut) r⟩
end
def wFld (C : Addr) (f : Str) (w : DE) : DE := fun σ S Q E => w σ S (fun d S1 => fldD C f d S1 Q) E
/-- o.f = e -/
def setFD (C : Addr) (f : Str) (o x : D) (S : Store) (Q : Store → Prop) : Prop := match o with
  | .ref a => (match S a with | some (.ins C' fs) => C' = C ∧ fs.length < 1000 ∧ Q (sup S a (.ins C (putFD f x fs))) | _ => False)
  | _ => False
theorem setFD_e {C : Addr} {f : Str} {o x : D} {S : Store} {Q : Store → Prop} (h : setFD C f o x S Q) : ∃ a fs, o = .ref a ∧ S a = some (.ins C fs) ∧ fs.length < 1000 ∧ Q (sup S a (.ins C (putFD f x fs))) := by
  unfold setFD at h
  split at h
  · split at h
    · obtain ⟨rfl, h1, h2⟩ := h
      exact ⟨_, _, rfl, by assumption, h1, h2⟩
    · exact h.elim
  · exact h.elim
def wSetF (C : Addr) (f : Str) (wo we : DE) : DS := fun D σ S => we σ S (fun x S1 => wo σ S1 (fun o S2 => setFD C f o x S2 (fun S3 => D.nx σ S3)) (fun e S' => D.ex e σ S')) (fun e S' => D.ex e σ S')
/-- o.f op= e -/
def wAugF (C : Addr) (f : Str) (r : RD2) (wo we : DE) : DS := fun D σ S => wo σ S (fun o S1 => fldD C f o S1 fun v S1 => we σ S1 (fun y S2 => r v y S2 fun z S3 => setFD C f o z S3 fun S4 => D.nx σ S4) (fun e S' => D.ex e σ S')) (fun e S' => D.ex e σ S')
section
variable {X : Cx} {W : WX} {o e a b : Expr} {es : List Expr} {f : Str} {C : Addr} {w wa wb wo we : DE} {ws : DA} {pos pos' tpos apos : Pos}
theorem dpe_fld (c : Cls X.K C) (n : NoAttr X.K C f) (he : PEd X W e w) (hb : attributeBase e f X.env (eval e X.env) = eval e X.env := by rfl) : PEd X W (.Attribute e f pos) (wFld C f w) :=
  PE.imp (pe_fld he hb) fun σ H Q ⟨σD, S, F, QD, ED, sl, m, h, k, kx⟩ => by
    refine ⟨σD, S, F, _, ED, sl, m, h, fun v H1 d S1 F1 r1 m1 f1 h1 => ?_, kx⟩
    obtain ⟨a, fs, x, rfl, ia, e1, q⟩ := fldD_e h1
    cases r1
    obtain ⟨dx, vs, g1, g2⟩ := ia.obj m1
    obtain ⟨u, g3, g4⟩ := (g2.lk f).1 x e1
    exact ⟨a, C, dx, vs, u, rfl, g1, c, n, g3, k u H1 x S1 F1 g4 m1 f1 q⟩
theorem dps_fld (c : Cls X.K C) (n : NoAttr X.K C f) (ho : PEd X W o wo) (he : PEd X W e we) (hs : swapsWith e (some (.Attribute o f pos')) pos.line X.env = pure false := by rfl) : PSd X W (.Assign [.Attribute o f pos'] e pos) (wSetF C f wo we) :=
  PS.imp (ps_fld ho he hs) fun D σ H ⟨σD, S, F, DD, sl, m, h, k⟩ => by
    refine ⟨σD, S, F, _, _, sl, m, h, fun v H1 d S1 F1 r1 m1 f1 h1 => ?_, k.ex.ex m sl⟩
    refine ⟨σD, S1, F1, _, _, sl.kp (f1.kp m), m1, h1, fun v2 H2 d2 S2 F2 r2 m2 f2 h2 => ?_, (k.ex.ex m sl).after f1⟩
    obtain ⟨a, fs, rfl, ia, e1, q⟩ := setFD_e h2
    cases r2
    obtain ⟨dx, vs, g1, g2⟩ := m2.obj _ _ ia
    have f12 := f1.trans f2
    have r1' := Rep.kp (f2.kp m1) _ _ r1
    refine ⟨a, C, dx, vs, rfl, g1, c, n, by rw [← g2.len]; exact e1, ?_⟩
    exact k.nx σ _ σD _ F2 ((sl.kp (f12.kp m)).kp (kp_lst m2 ia)) (lay_ins m2 ia (g2.putF r1')) (f12.trans (Fm.put ia)) q
def LIn (K : PySem.W.Frag) (rd : V → V → Hp → VK → Prop) (r : RD2) : Prop := ∀ x y H d e S F QD Q, Rep K H d x → Rep K H e y → Mod K H S F → r d e S QD → Post K S F H QD Q → rd x y H Q
theorem dps_fldaug {op : Operator} {rd : V → V → Hp → VK → Prop} {r : RD2} (c : Cls X.K C) (n : NoAttr X.K C f) (ho : PEd X W o wo) (he : PEd X W e we) (hop : InOp X op rd) (hl : LIn X.K rd r) : PSd X W (.AugAssign (.Attribute o f tpos) op e pos) (wAugF C f r wo we) :=
  PS.imp (ps_fldaug ho he hop) fun D σ H ⟨σD, S, F, DD, sl, m, h, k⟩ => by
    refine ⟨σD, S, F, _, _, sl, m, h, fun v H1 d S1 F1 r1 m1 f1 h1 => ?_, k.ex.ex m sl⟩
    obtain ⟨a, fs, x, rfl, ia, e1, q⟩ := fldD_e h1
    cases r1
    obtain ⟨dx, vs, g1, g2⟩ := ia.obj m1
    obtain ⟨u, g3, g4⟩ := (g2.lk f).1 x e1
    refine ⟨a, C, dx, vs, u, rfl, g1, c, n, g3, σD, S1, F1, _, _, sl.kp (f1.kp m), m1, q, fun v2 H2 d2 S2 F2 r2 m2 f2 h2 => ?_, (k.ex.ex m sl).after f1⟩
    have f12 := f1.trans f2
    refine hl u v2 H2 x d2 S2 F2 _ _ (Rep.kp (f2.kp m1) _ _ g4) r2 m2 h2 fun z H3 dz S3 F3 r3 m3 f3 h3 => ?_
    obtain ⟨a', fs', ea, ia', e2, q⟩ := setFD_e h3
    cases ea
    obtain ⟨dx', vs', k1, k2⟩ := m3.obj _ _ ia'
    have f123 := f12.trans f3
    refine ⟨dx', vs', k1, by rw [← k2.len]; exact e2, ?_⟩
    exact k.nx σ _ σD _ F3 ((sl.kp (f123.kp m)).kp (kp_lst m3 ia')) (lay_ins m3 ia' (k2.putF r3)) (f123.trans (Fm.put ia')) q
theorem li_add {K : PySem.W.Frag} : LIn K rAdd dAdd := fun x y H d e S F QD Q rx ry m h k => by
  cases d <;> cases e <;> first | exact h.elim | skip
  rename_i i j
  exact ⟨i, j, rx, ry, k (.int _) H (.int _) S F rfl m (Fm.refl S F H) h⟩
end
/-! ### what a call binds: n values by their places, keywords ks; the keyword-only parameters by a plan -/
def fillP {α : Type} (pl : List (Option Nat)) (ds ws : List α) : List α := List.zipWith (fun o d => match o with | some i => ws.getD i d | none => d) pl ds
structure KB (K : PySem.W.Frag) (fd : FuncData) (ps : List Str) (n : Nat) (ks : List Str) (pl : List (Option Nat)) (dD : List D) : Prop where
  ex : ∃ (dU : List Value) (dV : List V), Vals dV dU ∧ (∀ H, Reps K H dD dV) ∧ pl.length = dD.length ∧ ps.length = n + pl.length ∧
    ∀ (s : Shared) (us ws : List Value), K.In s.heap → us.length = n → ws.length = ks.length → BindsTo s fd ⟨us, ks.zip ws⟩ (ps.zip (us ++ fillP pl dU ws))
section
variable {K : PySem.W.Frag} {H : Hp}
theorem Vals.getD {vs : List V} {us : List Value} {v : V} {u : Value} (r : Vals vs us) (rv : RelV v u) (i : Nat) : RelV (vs.getD i v) (us.getD i u) := by
  induction r generalizing i with
  | nil => simpa using rv
  | cons r t ih =>
    cases i with
    | zero => simpa using r
    | succ i => simpa using ih i
theorem fill_vals : ∀ {pl : List (Option Nat)} {dV zs : List V} {dU ws : List Value}, Vals dV dU → Vals zs ws → Vals (fillP pl dV zs) (fillP pl dU ws)
  | [], _, _, _, _, _, _ => .nil
  | _ :: _, _, _, _, _, .nil, _ => .nil
  | o :: pl, _, _, _, _, .cons r t, rz => by
    unfold fillP
    rw [List.zipWith_cons_cons, List.zipWith_cons_cons]
    refine .cons ?_ (fill_vals t rz)
    cases o with
    | none => exact r
    | some i => exact Vals.getD rz r i
theorem Reps.getD : ∀ {ds : List D} {vs : List V} {d : D} {v : V} (i : Nat), Reps K H ds vs → Rep K H d v → Rep K H (ds.getD i d) (vs.getD i v)
  | [], _, _, _, i, r, rv => by cases r; simpa using rv
  | d :: ds, _, _, _, 0, ⟨v, vr, e, h, r⟩, _ => by subst e; simpa using h
  | d :: ds, _, _, _, i + 1, ⟨v, vr, e, h, r⟩, rv => by subst e; simpa using Reps.getD i r rv
theorem fill_reps : ∀ {pl : List (Option Nat)} {dD es : List D} {dV zs : List V}, Reps K H dD dV → Reps K H es zs → Reps K H (fillP pl dD es) (fillP pl dV zs)
  | [], _, _, _, _, _, _ => rfl
  | _ :: _, [], _, _, _, r, _ => by cases r; exact rfl
  | o :: pl, d :: ds, _, _, _, ⟨v, vr, e, h, r⟩, re => by
    subst e
    unfold fillP
    rw [List.zipWith_cons_cons, List.zipWith_cons_cons]
    refine ⟨_, _, rfl, ?_, fill_reps r re⟩
    cases o with
    | none => exact h
    | some i => exact Reps.getD i re h
end
section
variable {X : Cx} {W : WX} {o e a b : Expr} {es : List Expr} {m x : Str} {C : Addr} {w wa wb wo we : DE} {ws vs : DA} {pos pos' tpos apos p : Pos} {kws : List Keyword} {k j n : Nat} {ps ks : List Str} {pl : List (Option Nat)} {dD : List D} {sp : SpD}
/-- keyword arguments -/
abbrev PKd (X : Cx) (W : WX) (kws : List Keyword) (w : DA) : Prop := PK X kws (upA X.K X.mg W w)
theorem PK.imp {kws : List Keyword} {t t' : TA} (h : PK X kws t) (k : ∀ σ H Q, t' σ H Q → t σ H Q) : PK X kws t' := ⟨fun pos pins s σ H Q I q => h.run pos pins s σ H Q I (k σ H Q q)⟩
theorem dpk_nil : PKd X W [] wNil := PK.imp pk_nil fun σ H Q ⟨σD, S, F, QD, ED, sl, m, h, k, kx⟩ => k [] H [] S F rfl m (Fm.refl S F H) h
theorem dpk_cons {nm : Option Str} {kpos : Pos} (ha : PEd X W e w) (hr : PKd X W kws ws) : PKd X W (⟨nm, e, kpos⟩ :: kws) (wCons w ws) :=
  PK.imp (pk_cons ha hr) fun σ H Q ⟨σD, S, F, QD, ED, sl, m, h, k, kx⟩ => by
    refine ⟨σD, S, F, _, ED, sl, m, h, fun v H1 d S1 F1 r1 m1 f1 h1 => ?_, kx⟩
    exact ⟨σD, S1, F1, _, ED, sl.kp (f1.kp m), m1, h1, fun vs H2 ds S2 F2 r2 m2 f2 h2 => k (v :: vs) H2 (d :: ds) S2 F2 ⟨v, vs, rfl, Rep.kp (f2.kp m1) _ _ r1, r2⟩ m2 (f1.trans f2) h2, kx.after f1⟩
end
end DL
/-! ## DL22 -/
namespace DL
open PySem PySem.Spec PyProof.Rows L2
/-! ### methods, makers: calls of all shapes -/
structure CalM (P : Program) (w : World) (K : PySem.W.Frag) (mg : Str → Option Value) (base : Heap) (C : Addr) (m : Str) (k : Nat) (ps : List Str) (sp : SpD) (n : Nat) (ks : List Str) (pl : List (Option Nat)) (dD : List D) : Prop where
  ex : ∃ f fd, FnD P w K mg base k f fd ps sp ∧ Meth K C m f ∧ KB K fd ps n ks pl dD
structure CalC (P : Program) (w : World) (K : PySem.W.Frag) (mg : Str → Option Value) (base : Heap) (x : Str) (C : Addr) (k : Nat) (ps : List Str) (sp : SpD) (n : Nat) (ks : List Str) (pl : List (Option Nat)) (dD : List D) : Prop where
  ex : ∃ f fd, FnD P w K mg base k f fd ps sp ∧ Mk K C f ∧ mg x = some (.ref C) ∧ KB K fd ps n ks pl dD
/-- d is an instance of C, and no attribute of its own hides m -/
def recvD (C : Addr) (m : Str) (d : D) (S : Store) : Prop := match d with
  | .ref a => (match S a with
    | some (.ins C' fs) => C' = C ∧ fs.lookup m = none
    | some (.own C' fs _) => C' = C ∧ fs.lookup m = none
    | _ => False)
  | _ => False
theorem recvD_e {C : Addr} {m : Str} {d : D} {S : Store} (h : recvD C m d S) : ∃ a fs, d = .ref a ∧ InsAt S a C fs ∧ fs.lookup m = none := by
  unfold recvD at h
  split at h
  · split at h
    · obtain ⟨rfl, h⟩ := h
      exact ⟨_, _, rfl, .inl (by assumption), h⟩
    · obtain ⟨rfl, h⟩ := h
      exact ⟨_, _, rfl, .inr ⟨_, by assumption⟩, h⟩
    · exact h.elim
  · exact h.elim
def wMeth (C : Addr) (m : Str) (n nk : Nat) (pl : List (Option Nat)) (dD : List D) (sp : SpD) (wo : DE) (ws wk : DA) : DE := fun σ S Q E => wo σ S (fun d S1 => recvD C m d S1 ∧ ws σ S1 (fun ds S2 => wk σ S2 (fun zs S3 => (ds.length + 1 = n ∧ zs.length = nk) ∧ sp (d :: (ds ++ fillP pl dD zs)) S3 Q E) E) E) E
def wMake (C : Addr) (n nk : Nat) (pl : List (Option Nat)) (dD : List D) (sp : SpD) (ws wk : DA) : DE := fun σ S Q E => ws σ S (fun ds S2 => wk σ S2 (fun zs S3 => (ds.length + 1 = n ∧ zs.length = nk) ∧ ∀ x, S3 x = none → sp (.ref x :: (ds ++ fillP pl dD zs)) (sup S3 x (.ins C [])) (fun d S4 => d = .non ∧ Q (.ref x) S4) E) E) E
section
variable {X : Cx} {W : WX} {o e : Expr} {es : List Expr} {m x : Str} {C : Addr} {wo : DE} {ws wk : DA} {pos apos p : Pos} {kws : List Keyword} {k j n : Nat} {ps ks : List Str} {pl : List (Option Nat)} {dD : List D} {sp : SpD}
theorem run_kb {f : Addr} {fd : FuncData} {pins : List (Addr × Obj)} {σ : L2.St} {H : Hp} {s : Shared} {Q : VK} {us wz : List Value} {vs zs : List V} {ds es : List D} {S : Store} {F : Own} {QD : DK} {ED : XE} (G : FnD X.prog X.w X.K X.mg X.base k f fd ps sp) (hr : Room k X.A) (hb : KB X.K fd ps n ks pl dD) (tk : Takes X W)
    (I : Inv X pins σ H s) (r : Vals vs us) (rz : Vals zs wz) (rd : Reps X.K H ds vs) (re : Reps X.K H es zs) (m : Mod X.K H S F) (l1 : ds.length = n) (l2 : es.length = ks.length) (h : sp (ds ++ fillP pl dD es) S QD ED) (kq : Post X.K S F H QD Q) (kx : PostX X.K X.mg S F H ED (fun c d H' => W c d σ H')) :
    wpAny (model X.prog X.w) X.A (call (.ref f) us (ks.zip wz)) (EP X pins σ Q) X.xe s := by
  obtain ⟨dU, dV, h1, h2, h3, h4, hb⟩ := hb.ex
  have lu : us.length = n := by rw [← r.length, ← rd.length, l1]
  have lw : wz.length = ks.length := by rw [← rz.length, ← re.length, l2]
  have hsp : upSp X.K X.mg sp (vs ++ fillP pl dV zs) H Q (WE W σ) := ⟨_, S, F, QD, ED, rd.append (fill_reps (h2 H) re), m, h, kq, kx⟩
  have rv : Vals (vs ++ fillP pl dV zs) (us ++ fillP pl dU wz) := r.append (fill_vals h1 rz)
  refine wpAny_call (codeAny_mono (G.run X.A X.stack s H ⟨us, ks.zip wz⟩ _ _ Q (WE W σ) hr I.env0 (hb s us wz I.kIn lu lw) rv hsp) fun r s' hq => ?_)
  cases r with
  | error e => exact passAt tk σ pins H s e s' I hq
  | ok fl =>
    cases fl with
    | ret u => exact I.after hq
    | next => exact False.elim hq
    | brk => exact False.elim hq
    | cont => exact False.elim hq
theorem dpe_meth {pl' : Sem Bool} (M : CalM X.prog X.w X.K X.mg X.base C m k ps sp n ks pl dD) (c : Cls X.K C) (hr : Room j X.A) (hkj : k ≤ j) (tk : Takes X W) (ho : PEd X W o wo) (ha : PAd X W (e :: es) ws) (hkw : PKd X W kws wk)
    (hall : (backToKw pos (keywordEach kws X.env)).all (·.1.isSome) = true := by rfl) (hks : (backToKw pos (keywordEach kws X.env)).filterMap (·.1) = ks := by rfl)
    (he : starEach (e :: es) X.env = (false, eval e X.env) :: starEach es X.env := by rfl)
    (hpl : ((backTo pos (starEach (e :: es) X.env)).any (·.1) || (backToKw pos (keywordEach kws X.env)).any (·.1.isNone)) = false := by rfl)
    (ht : eval (.Call (.Attribute o m apos) (e :: es) kws pos) X.env = (do
      let ov ← eval o X.env
      standAt apos.atName
      let (f, first) ← holding [ov] (getMethod ov m pl')
      callWith pos f first (backTo pos (starEach (e :: es) X.env)) (backToKw pos (keywordEach kws X.env))) := by rfl) :
    PEd X W (.Call (.Attribute o m apos) (e :: es) kws pos) (wMeth C m n ks.length pl dD sp wo ws wk) := by
  obtain ⟨f, fd, G, hm, hb⟩ := M.ex
  refine ⟨fun pins s σ H Q I ⟨σD, S, F, QD, ED, sl, m0, h, kq, kx⟩ => ?_⟩
  refine PySem.W.methodCall_KW (pl := pl') (thn (ho.run pins s σ H (fun v H1 => ∃ d S1 F1, Rep X.K H1 d v ∧ Mod X.K H1 S1 F1 ∧ Fm S F H S1 F1 H1 ∧ recvD C m d S1 ∧ ws σD S1 (fun ds S2 => wk σD S2 (fun zs S3 => (ds.length + 1 = n ∧ zs.length = ks.length) ∧ sp (d :: (ds ++ fillP pl dD zs)) S3 QD ED) ED) ED) I
    ⟨σD, S, F, _, ED, sl, m0, h, fun v H1 d S1 F1 r1 m1 f1 q => ⟨d, S1, F1, r1, m1, f1, q.1, q.2⟩, kx⟩) fun u s1 ⟨v, H1, I1, rv, d, S1, F1, r1, m1, f1, hrec, q⟩ => ?_) ht
  obtain ⟨a, fs, rfl, ia, l⟩ := recvD_e hrec
  cases r1
  obtain rfl : u = Value.ref a := rv
  obtain ⟨dx, vf, g1, g2⟩ := ia.obj m1
  refine getmeth_ok I1 g1 c hm ((g2.lk _).2 l) ?_
  refine PySem.W.callWith_KW (first := [.ref a]) (h₀ := X.base) I.ok.mod.kin hm.kp hall (thn (ha.run pos pins s1 σ H1 (fun vs H2 => ∃ ds S2 F2, Reps X.K H2 ds vs ∧ Mod X.K H2 S2 F2 ∧ Fm S1 F1 H1 S2 F2 H2 ∧ wk σD S2 (fun zs S3 => (ds.length + 1 = n ∧ zs.length = ks.length) ∧ sp (.ref a :: (ds ++ fillP pl dD zs)) S3 QD ED) ED) I1
    ⟨σD, S1, F1, _, ED, sl.kp (f1.kp m0), m1, q, fun vs H2 ds S2 F2 r2 m2 f2 q => ⟨ds, S2, F2, r2, m2, f2, q⟩, kx.after f1⟩) fun us s2 ⟨vs, H2, I2, r, ds, S2, F2, r2, m2, f2, q2⟩ => ?_) hpl he
  have f12 := f1.trans f2
  refine thn (hkw.run pos pins s2 σ H2 (fun zs H3 => ∃ es S3 F3, Reps X.K H3 es zs ∧ Mod X.K H3 S3 F3 ∧ Fm S2 F2 H2 S3 F3 H3 ∧ (ds.length + 1 = n ∧ es.length = ks.length) ∧ sp (.ref a :: (ds ++ fillP pl dD es)) S3 QD ED) I2
    ⟨σD, S2, F2, _, ED, sl.kp (f12.kp m0), m2, q2, fun zs H3 es S3 F3 r3 m3 f3 q => ⟨es, S3, F3, r3, m3, f3, q.1, q.2⟩, kx.after f12⟩) fun wz s3 ⟨zs, H3, I3, rz, es', S3, F3, r3, m3, f3, ⟨l1, l2⟩, q3⟩ => ⟨I3.kIn, ?_⟩
  rw [hks]
  have f123 := f12.trans f3
  exact run_kb (ds := .ref a :: ds) (vs := .ref a :: vs) (us := .ref a :: us) G (hr.mono hkj) hb tk I3 (.cons rfl r) rz ⟨_, _, rfl, rfl, Reps.kp (f3.kp m2) _ _ r2⟩ r3 m3 l1 l2 q3 (kq.after f123) (kx.after f123)
theorem dpe_meth0 {pl' : Sem Bool} (M : CalM X.prog X.w X.K X.mg X.base C m k ps sp n ks pl dD) (c : Cls X.K C) (hr : Room j X.A) (hkj : k ≤ j) (tk : Takes X W) (ho : PEd X W o wo) (hkw : PKd X W kws wk)
    (hall : (backToKw pos (keywordEach kws X.env)).all (·.1.isSome) = true := by rfl) (hks : (backToKw pos (keywordEach kws X.env)).filterMap (·.1) = ks := by rfl)
    (hpl : ((backTo pos (starEach [] X.env)).any (·.1) || (backToKw pos (keywordEach kws X.env)).any (·.1.isNone)) = false := by rfl)
    (ht : eval (.Call (.Attribute o m apos) [] kws pos) X.env = (do
      let ov ← eval o X.env
      standAt apos.atName
      let (f, first) ← holding [ov] (getMethod ov m pl')
      callWith pos f first (backTo pos (starEach [] X.env)) (backToKw pos (keywordEach kws X.env))) := by rfl) :
    PEd X W (.Call (.Attribute o m apos) [] kws pos) (wMeth C m n ks.length pl dD sp wo wNil wk) := by
  obtain ⟨f, fd, G, hm, hb⟩ := M.ex
  refine ⟨fun pins s σ H Q I ⟨σD, S, F, QD, ED, sl, m0, h, kq, kx⟩ => ?_⟩
  refine PySem.W.methodCall_KW (pl := pl') (thn (ho.run pins s σ H (fun v H1 => ∃ d S1 F1, Rep X.K H1 d v ∧ Mod X.K H1 S1 F1 ∧ Fm S F H S1 F1 H1 ∧ recvD C m d S1 ∧ wk σD S1 (fun zs S3 => (([] : List D).length + 1 = n ∧ zs.length = ks.length) ∧ sp (d :: ([] ++ fillP pl dD zs)) S3 QD ED) ED) I
    ⟨σD, S, F, _, ED, sl, m0, h, fun v H1 d S1 F1 r1 m1 f1 q => ⟨d, S1, F1, r1, m1, f1, q.1, q.2⟩, kx⟩) fun u s1 ⟨v, H1, I1, rv, d, S1, F1, r1, m1, f1, hrec, q⟩ => ?_) ht
  obtain ⟨a, fs, rfl, ia, l⟩ := recvD_e hrec
  cases r1
  obtain rfl : u = Value.ref a := rv
  obtain ⟨dx, vf, g1, g2⟩ := ia.obj m1
  refine getmeth_ok I1 g1 c hm ((g2.lk _).2 l) ?_
  refine PySem.W.callWith_KW0 (first := [.ref a]) (h₀ := X.base) I.ok.mod.kin hm.kp hall ?_ hpl
  refine thn (hkw.run pos pins s1 σ H1 (fun zs H3 => ∃ es S3 F3, Reps X.K H3 es zs ∧ Mod X.K H3 S3 F3 ∧ Fm S1 F1 H1 S3 F3 H3 ∧ (([] : List D).length + 1 = n ∧ es.length = ks.length) ∧ sp (.ref a :: ([] ++ fillP pl dD es)) S3 QD ED) I1
    ⟨σD, S1, F1, _, ED, sl.kp (f1.kp m0), m1, q, fun zs H3 es S3 F3 r3 m3 f3 q => ⟨es, S3, F3, r3, m3, f3, q.1, q.2⟩, kx.after f1⟩) fun wz s3 ⟨zs, H3, I3, rz, es', S3, F3, r3, m3, f3, ⟨l1, l2⟩, q3⟩ => ⟨I3.kIn, ?_⟩
  rw [hks]
  have f13 := f1.trans f3
  exact run_kb (ds := [.ref a]) (vs := [.ref a]) (us := [.ref a]) G (hr.mono hkj) hb tk I3 (.cons rfl .nil) rz (Reps.one rfl) r3 m3 l1 l2 q3 (kq.after f13) (kx.after f13)
/-- a new instance -/
theorem run_mkb {f : Addr} {fd : FuncData} {pins : List (Addr × Obj)} {σ : L2.St} {H : Hp} {s : Shared} {Q : VK} {us wz : List Value} {vs zs : List V} {ds es : List D} {S : Store} {F : Own} {QD : DK} {ED : XE} (M : Mk X.K C f) (G : FnD X.prog X.w X.K X.mg X.base k f fd ps sp) (hr : Room (k + 1) X.A) (hb : KB X.K fd ps n ks pl dD) (tk : Takes X W)
    (I : Inv X pins σ H s) (r : Vals vs us) (rz : Vals zs wz) (rd : Reps X.K H ds vs) (re : Reps X.K H es zs) (m : Mod X.K H S F) (l1 : ds.length + 1 = n) (l2 : es.length = ks.length)
    (h : ∀ x, S x = none → sp (.ref x :: (ds ++ fillP pl dD es)) (sup S x (.ins C [])) (fun d S4 => d = .non ∧ QD (.ref x) S4) ED) (kq : Post X.K S F H QD Q) (kx : PostX X.K X.mg S F H ED (fun c d H' => W c d σ H')) :
    wpAny (model X.prog X.w) X.A (call (.ref C) us (ks.zip wz)) (EP X pins σ Q) X.xe s := by
  obtain ⟨dU, dV, h1, h2, h3, h4, hb⟩ := hb.ex
  have nx : H (s.heap.objs.size + 1) = none := I.hok.fresh (Nat.le_succ _)
  have nd : H s.heap.objs.size = none := I.hok.fresh (Nat.le_refl _)
  have ne : s.heap.objs.size ≠ s.heap.objs.size + 1 := Nat.ne_of_lt (Nat.lt_succ_self _)
  have I2 := Inv.made (C := C) I
  have m1 := m.laid (o := .own (s.heap.objs.size + 1)) nd
  have f1 : Fm S F H S F (upd H s.heap.objs.size (.own (s.heap.objs.size + 1))) := Fm.laid nd
  have nx1 : upd H s.heap.objs.size (.own (s.heap.objs.size + 1)) (s.heap.objs.size + 1) = none := by rw [upd_ne (Ne.symm ne)]; exact nx
  have m2 := m1.laid (o := .ins C s.heap.objs.size []) nx1
  have f2 := f1.trans (Fm.laid (S := S) (F := F) (o := .ins C s.heap.objs.size []) nx1)
  obtain ⟨sx, fx⟩ := m.fresh nx
  have m3 := m2.adopt (u := .ins C []) sx fx ⟨_, [], upd_same, .nil⟩
  have f3 : Fm S F H (sup S (s.heap.objs.size + 1) (.ins C [])) F _ := f2.adopt (p := s.heap.objs.size + 1) (u := .ins C []) (.inr (.inr nx))
  have kk : Kp H (upd (upd H s.heap.objs.size (.own (s.heap.objs.size + 1))) (s.heap.objs.size + 1) (.ins C s.heap.objs.size [])) := f2.kp m
  have lu : us.length + 1 = n := by rw [← r.length, ← rd.length, l1]
  have lw : wz.length = ks.length := by rw [← rz.length, ← re.length, l2]
  have rd' : Reps X.K _ (.ref (s.heap.objs.size + 1) :: (ds ++ fillP pl dD es)) (V.ref (s.heap.objs.size + 1) :: (vs ++ fillP pl dV zs)) := ⟨_, _, rfl, rfl, (Reps.kp kk _ _ rd).append (fill_reps (h2 _) (Reps.kp kk _ _ re))⟩
  have hsp : upSp X.K X.mg sp (V.ref (s.heap.objs.size + 1) :: (vs ++ fillP pl dV zs)) _ (fun v H2 => v = .non ∧ Q (.ref (s.heap.objs.size + 1)) H2) (WE W σ) := ⟨_, _, F, _, ED, rd', m3, h _ sx, fun v H' d S' F' rr m' f' ⟨e, q⟩ => by
    subst e
    exact ⟨rr, kq (.ref _) H' (.ref _) S' F' rfl m' (f3.trans f') q⟩, kx.after f3⟩
  have rv : Vals (V.ref (s.heap.objs.size + 1) :: (vs ++ fillP pl dV zs)) (Value.ref (s.heap.objs.size + 1) :: us ++ fillP pl dU wz) := .cons rfl (r.append (fill_vals h1 rz))
  refine wpAny_call (make_map (f := f) I.kIn M.makes M.init (beq_iff_eq.mp M.fn) (codeAny_mono (G.run _ X.stack _ _ ⟨Value.ref (s.heap.objs.size + 1) :: us, ks.zip wz⟩ _ _ _ (WE W σ) (hr.make C us (ks.zip wz))
    (I2.env0.make C us (ks.zip wz)) (hb _ (Value.ref (s.heap.objs.size + 1) :: us) wz I2.kIn lu lw) rv hsp) fun r s' hq' => ?_))
  cases r with
  | error e => exact passAt tk σ pins _ _ e s' I2 hq'
  | ok fl =>
    cases fl with
    | ret u =>
      obtain ⟨v, H', I3, rv, ev, q3⟩ := I2.after hq'
      subst ev
      exact ⟨rv, ⟨V.ref (s.heap.objs.size + 1), H', I3, rfl, q3⟩⟩
    | next => exact False.elim hq'
    | brk => exact False.elim hq'
    | cont => exact False.elim hq'
theorem dpe_make (M : CalC X.prog X.w X.K X.mg X.base x C k ps sp n ks pl dD) (hr : Room j X.A) (hkj : k + 1 ≤ j) (hg : Gl X x) (tk : Takes X W) (ha : PAd X W (e :: es) ws) (hkw : PKd X W kws wk)
    (hall : (backToKw pos (keywordEach kws X.env)).all (·.1.isSome) = true := by rfl) (hks : (backToKw pos (keywordEach kws X.env)).filterMap (·.1) = ks := by rfl) (hdb : (x == ("__debug__" : Str)) = false := by decide)
    (he : starEach (e :: es) X.env = (false, eval e X.env) :: starEach es X.env := by rfl)
    (hpl : ((backTo pos (starEach (e :: es) X.env)).any (·.1) || (backToKw pos (keywordEach kws X.env)).any (·.1.isNone)) = false := by rfl) :
    PEd X W (.Call (.Name x p) (e :: es) kws pos) (wMake C n ks.length pl dD sp ws wk) := by
  obtain ⟨f, fd, G, mk, hm, hb⟩ := M.ex
  refine ⟨fun pins s σ H Q I ⟨σD, S, F, QD, ED, sl, m0, h, kq, kx⟩ => ?_⟩
  refine wpAny_Call_Name_kw (ld_glob I hg hm ?_ hdb)
  refine PySem.W.callWith_KW (h₀ := X.base) I.ok.mod.kin mk.kp hall (thn (ha.run pos pins s σ H (fun vs H2 => ∃ ds S2 F2, Reps X.K H2 ds vs ∧ Mod X.K H2 S2 F2 ∧ Fm S F H S2 F2 H2 ∧ wk σD S2 (fun zs S3 => (ds.length + 1 = n ∧ zs.length = ks.length) ∧ ∀ x, S3 x = none → sp (.ref x :: (ds ++ fillP pl dD zs)) (sup S3 x (.ins C [])) (fun d S4 => d = .non ∧ QD (.ref x) S4) ED) ED) I
    ⟨σD, S, F, _, ED, sl, m0, h, fun vs H2 ds S2 F2 r2 m2 f2 q => ⟨ds, S2, F2, r2, m2, f2, q⟩, kx⟩) fun us s2 ⟨vs, H2, I2, r, ds, S2, F2, r2, m2, f2, q2⟩ => ?_) hpl he
  refine thn (hkw.run pos pins s2 σ H2 (fun zs H3 => ∃ es S3 F3, Reps X.K H3 es zs ∧ Mod X.K H3 S3 F3 ∧ Fm S2 F2 H2 S3 F3 H3 ∧ (ds.length + 1 = n ∧ es.length = ks.length) ∧ ∀ x, S3 x = none → sp (.ref x :: (ds ++ fillP pl dD es)) (sup S3 x (.ins C [])) (fun d S4 => d = .non ∧ QD (.ref x) S4) ED) I2
    ⟨σD, S2, F2, _, ED, sl.kp (f2.kp m0), m2, q2, fun zs H3 es S3 F3 r3 m3 f3 q => ⟨es, S3, F3, r3, m3, f3, q.1, q.2⟩, kx.after f2⟩) fun wz s3 ⟨zs, H3, I3, rz, es', S3, F3, r3, m3, f3, ⟨l1, l2⟩, q3⟩ => ⟨I3.kIn, ?_⟩
  rw [hks]
  have f23 := f2.trans f3
  exact run_mkb (us := us) mk G (hr.mono hkj) hb tk I3 r rz (Reps.kp (f3.kp m2) _ _ r2) r3 m3 l1 l2 q3 (kq.after f23) (kx.after f23)
end
/-! ### several targets: a = b = e -/
def wAsg2 (w : DE) (g1 g2 : DG) : DS := fun D σ S => w σ S (fun d S' => g1 d σ S' (fun σ1 S1 => g2 d σ1 S1 D.nx)) (fun e S' => D.ex e σ S')
theorem dps_asg2 {X : Cx} {W : WX} {e t1 t2 : Expr} {pos : Pos} {w : DE} {g1 g2 : DG} {v1 v2 : List Nat} (he : PEd X W e w) (h1 : PGd X v1 t1 g1) (h2 : PGd X v2 t2 g2) (ha : (assignEach [t1, t2] X.env).map (·.2) = [assign t1 X.env, assign t2 X.env] := by rfl) (hw : swappedStores [t1, t2] e X.env = pure none := by rfl) :
    PSd X W (.Assign [t1, t2] e pos) (wAsg2 w g1 g2) := PS.imp (ps_asg2 he h1 h2 ha hw) fun D σ H ⟨σD, S, F, DD, sl, m, h, k⟩ => by
  refine ⟨σD, S, F, _, _, sl, m, h, fun v H' d S' F' r m' f q => ?_, k.ex.ex m sl⟩
  refine ⟨d, σD, S', F', _, r, sl.kp (f.kp m), m', q, fun σ2 H2 σD2 S2 F2 _ _ sl2 m2 f2 q2 => ?_⟩
  exact ⟨d, σD2, S2, F2, _, Rep.kp (f2.kp m') _ _ r, sl2, m2, q2, fun σ3 H3 σD3 S3 F3 _ _ sl3 m3 f3 q3 => k.nx σ3 H3 σD3 S3 F3 sl3 m3 ((f.trans f2).trans f3) q3⟩
end DL
/-! ## DL23 -/
namespace DL
open PySem PySem.Spec PyProof.Rows L2
/-! ### o.f as a target -/
theorem pg_fld {X : Cx} {o : Expr} {f : Str} {pos : Pos} {to : TE} (ho : PE X o to) : PG X (.Attribute o f pos) (fun v σ H Q => to σ H fun x H1 => ∃ a C dx fs, x = .ref a ∧ H1 a = some (.ins C dx fs) ∧ Cls X.K C ∧ NoAttr X.K C f ∧ fs.length < 1000 ∧ Q σ (upd H1 a (.ins C dx (putF f v fs)))) := by
  refine ⟨fun pins s σ H v u Q I r h => ?_⟩
  have e : assign (.Attribute o f pos) X.env u = (do
      let ov ← holding [u] (eval o X.env)
      standAt pos.atName
      holding [u, ov] (setAttr ov f u)
      release [u, ov] []) := rfl
  rw [e]
  refine wpAny_bind (wpAny_holding (thn (ho.run pins s σ H _ I h) fun ov s1 ⟨x, H1, I1, rx, a, C, dx, fs, ex, ea, c, n, hl, q⟩ => ?_))
  subst ex
  obtain rfl : ov = Value.ref a := rx
  exact wpAny_bind (wpAny_standAt (wpAny_bind (wpAny_holding (setattr_ok I1 ea c n hl r fun s2 I2 => wpAny_release ⟨σ, _, I2, q⟩))))
def gFldD (C : Addr) (f : Str) (wo : DE) : DG := fun d σ S Q => wo σ S (fun o S1 => setFD C f o d S1 fun S2 => Q σ S2) XF
theorem dpg_fld {X : Cx} {o : Expr} {f : Str} {pos : Pos} {C : Addr} {wo : DE} {vv : List Nat} (c : Cls X.K C) (n : NoAttr X.K C f) (ho : PEd X (fun _ _ _ _ => False) o wo) : PGd X vv (.Attribute o f pos) (gFldD C f wo) :=
  PG.imp (pg_fld ho) fun v σ H Q ⟨d, σD, S, F, QD, r, sl, m, h, k⟩ => by
    refine ⟨σD, S, F, _, _, sl, m, h, fun x H1 od S1 F1 r1 m1 f1 h1 => ?_, fun _ _ _ _ _ _ _ _ _ z => z.elim⟩
    obtain ⟨a, fs, rfl, ia, e1, q⟩ := setFD_e h1
    cases r1
    obtain ⟨dx, vs, g1, g2⟩ := m1.obj _ _ ia
    refine ⟨a, C, dx, vs, rfl, g1, c, n, by rw [← g2.len]; exact e1, ?_⟩
    exact k σ _ σD _ F1 (fun _ _ => rfl) rfl ((sl.kp (f1.kp m)).kp (kp_lst m1 ia)) (lay_ins m1 ia (g2.putF (Rep.kp (f1.kp m) _ _ r))) (f1.trans (Fm.put ia)) q
/-! ### a target with a star -/
theorem ns_same {h : Heap} {a : Addr} {m m' : Str → Option Value} (x : h.Ns a m) (y : h.Ns a m') : m = m' := by
  obtain ⟨o, es, ep, e1, e2, _, e3⟩ := x
  obtain ⟨o', es', ep', g1, g2, _, g3⟩ := y
  rw [e1] at g1
  cases g1
  rw [e2] at g2
  cases g2
  funext n
  rw [← e3, g3]
theorem obj_there {P : Program} {w : World} {H : Hp} {h : Heap} {a : Addr} {o : HO} (x : ObjOk P w H h a o) : ∃ ob, h.get? a = some ob := by
  cases o with
  | lst xs => obtain ⟨_, _, _, _, e⟩ := x; exact ⟨_, e⟩
  | tup xs => obtain ⟨_, _, _, ob, e, _⟩ := x; exact ⟨ob, e⟩
  | dK kvs => obtain ⟨_, _, _, _, o, _, _, e, _⟩ := x; exact ⟨o, e⟩
  | dT kvs => obtain ⟨_, _, _, _, o, _, _, e, _⟩ := x; exact ⟨o, e⟩
  | set S n => obtain ⟨o, _, _, _, e, _⟩ := x; exact ⟨o, e⟩
  | ins C dx fs => obtain ⟨_, _, _, e, _⟩ := x; exact ⟨_, e⟩
  | own y => exact x
  | xd fs => obtain ⟨_, ⟨o, _, _, e, _⟩, _⟩ := x; exact ⟨o, e⟩
  | rng lo hi => obtain ⟨_, _, _, e⟩ := x; exact ⟨_, e⟩
  | frz ob u => exact ⟨ob, x.1⟩
  | tbl ps => exact ⟨_, x⟩
  | met f y => exact ⟨_, x⟩
  | ext φ => exact x.2.1
/-- what a rule over the whole ledger leaves: a new list at D, all else as it was -/
theorem Inv.led {X : Cx} {pins : List (Addr × Obj)} {σ : L2.St} {H : Hp} {s : Shared} {m : Str → Option Value} {D : Addr} {h' : Heap} {tk : Nat} {ys : List V} {us : List Value} (I : Inv X pins σ H s) (hm : s.heap.Ns X.env.locals m) (Fr' : Fr X.base X.env.locals h' m)
    (N : News X.base X.env.locals h' ((D, PySem.W.listOf us.toArray 0) :: allNews X.base s.heap X.env.locals)) (hD : ∀ p ∈ allNews X.base s.heap X.env.locals, p.1 < D) (rv : Vals ys us) (hz : ys.length ≤ sizeLine) :
    H D = none ∧ Inv X pins σ (upd H D (.lst ys)) { s with heap := h', toks := tk } := by
  have keep : ∀ b o, b ≠ X.env.locals → s.heap.get? b = some o → h'.get? b = some o := fun b o nb e => by
    cases q : X.base.get? b with
    | some ob =>
      have z := (I.bs b ob q).1
      rw [e] at z
      cases z
      exact Fr'.keep b _ q
    | none => exact (N _ (List.mem_cons_of_mem _ (mem_allNews nb q e))).1
  have d0 := N (D, PySem.W.listOf us.toArray 0) List.mem_cons_self
  have nD : s.heap.get? D = none := by
    cases e : s.heap.get? D with
    | none => rfl
    | some o => exact absurd (hD _ (mem_allNews d0.2.1 d0.2.2 e)) (Nat.lt_irrefl _)
  have fD : H D = none := by
    cases e : H D with
    | none => rfl
    | some u =>
      obtain ⟨o, ho⟩ := obj_there (I.hok D u e)
      rw [nD] at ho
      cases ho
  have ne : ∀ b o, s.heap.get? b = some o → b ≠ D := fun b o e z => by rw [z, nD] at e; cases e
  have hl : ∀ {b : Addr} {u : HO}, H b = some u → b ≠ X.env.locals := fun {b u} e z => by rw [z, I.free] at e; cases e
  refine ⟨fD, ?_⟩
  refine I.step (g' := s.gens) (d' := s.drawn) (ch := []) (fun _ z => nomatch z) (fun b o nb _ _ e _ => keep b o nb e) (fun b o nb _ _ e _ => ⟨o.slots, keep b o nb e⟩) (fun b o _ e n => by rw [upd_ne (ne b o e)]; exact n) (fun b o _ e => ?_)
    (fun b xs e => by rw [upd_ne (ne_of_none e fD)]; exact e) (fun b o u e => by rw [upd_ne (ne_of_none e fD)]; exact e) (fun b ps e => ⟨#[], by rw [upd_ne (ne_of_none e fD), e]; simp⟩) (fun m' hm' => by rw [ns_same hm' hm]; exact Fr'.ns) (fun b u e => ?_) I.bare
  · by_cases nb : b = X.env.locals
    · obtain ⟨o', _, _, e', _⟩ := Fr'.ns
      exact ⟨o', nb ▸ e'⟩
    · exact ⟨o, keep b o nb e⟩
  · by_cases hb : b = D
    · subst hb
      rw [upd_same] at e
      cases e
      exact ⟨hz, us, 0, rv, d0.1⟩
    · rw [upd_ne hb] at e
      refine (I.hok b u e).stay (fun c v hc q => ?_) (fun c q => by rw [upd_ne (ne_of_none q fD)]; exact q) fun c xs q => by rw [upd_ne (ne_of_none q fD)]; exact q
      rcases hc with rfl | hc
      · exact keep c v (hl e) q
      · exact keep c v (hl hc) q
def starV {α : Type} (n i : Nat) (xs : List α) : List α × List α × List α := (xs.take i, (xs.drop i).take (xs.length + 1 - n), (xs.drop i).drop (xs.length + 1 - n))
def gStar (K : PySem.W.Frag) (n i : Nat) (t : TGs) : TG := fun v σ H Q => ∃ a xs, v = .ref a ∧ (SqT K H a xs ∨ LsM H a xs) ∧ n ≤ xs.length + 1 ∧ xs.length ≤ 16384 ∧
  ∀ D od, H D = none → t ((starV n i xs).1 ++ [.ref D] ++ (starV n i xs).2.2) σ (upd H D (.frz od (.lst (starV n i xs).2.1))) Q
theorem pg_star {X : Cx} {es : List Expr} {k : Nat} {t : TGs} {n i : Nat} {pos : Pos} (hc : X.calm = true) (h : PGs X es t) (hi : i < n)
    (hn : (assignEach es X.env).length = n := by rfl) (hst : (assignEach es X.env).findIdx? (·.1) = some i := by rfl) : PG X (.Tuple es k pos) (gStar X.K n i t) := by
  refine ⟨fun pins s σ H v u Q I r hw => ?_⟩
  obtain ⟨a, xs, e1, hq, hl, h16, hw⟩ := hw
  subst e1
  cases r
  obtain ⟨m, F⟩ := I.fr
  have hns : s.heap.Ns X.env.locals m := F.ns
  have N : News X.base X.env.locals s.heap (allNews X.base s.heap X.env.locals) := news_all
  have fin : ∀ {its : List Value}, Vals xs its → ∀ (D : Addr) (h' : Heap) (tk : Nat), Fr X.base X.env.locals h' m → News X.base X.env.locals h' ((D, PySem.W.listOf (starV n i its).2.1.toArray 0) :: allNews X.base s.heap X.env.locals) → (∀ p ∈ allNews X.base s.heap X.env.locals, p.1 < D) →
      wpAny (model X.prog X.w) X.A (assignInOrder ((assignEach es X.env).map (·.2)) ((starV n i its).1 ++ [.ref D] ++ (starV n i its).2.2)) (fun _ s' => ∃ σ' H', Inv X pins σ' H' s' ∧ Q σ' H') X.xe { s with heap := h', toks := tk } := fun {its} rv D h' tk F' N' hD => by
    have e := rv.length
    have rm : Vals (starV n i xs).2.1 (starV n i its).2.1 := by
      unfold starV
      rw [e]
      exact (rv.drop _).take _
    have hz : (starV n i xs).2.1.length ≤ sizeLine := by
      unfold starV
      rw [List.length_take, List.length_drop, sizeLine_eq]
      omega
    obtain ⟨fD, I1⟩ := Inv.led (tk := tk) I hns F' N' hD rm hz
    obtain ⟨od, I2⟩ := I1.lock upd_same True.intro
    rw [upd_upd] at I2
    refine h.run pins _ σ _ _ _ Q I2 ?_ (hw D od fD)
    unfold starV
    rw [e]
    exact ((rv.take i).append (.cons (show RelV (.ref D) (.ref D) from rfl) .nil)).append ((rv.drop _).drop _)
  rcases hq with hq | hq
  · obtain ⟨its, rv, ht, hz⟩ := I.tuple hq
    have e := rv.length
    refine PySem.W.kun_assignT (first := (starV n i its).1) (mids := (starV n i its).2.1) (lasts := (starV n i its).2.2) F N ht (I.ok.hd hc) hn hst hi (by rw [List.size_toArray]; omega) (by rw [List.size_toArray]; omega) ?_ ?_ ?_ (fin rv)
    all_goals (unfold starV; simp)
  · obtain ⟨its, rv, ht, hz⟩ := I.list (LsM.sq (K := X.K) hq)
    have e := rv.length
    refine PySem.W.kun_assignL (first := (starV n i its).1) (mids := (starV n i its).2.1) (lasts := (starV n i its).2.2) F N ht.isList (I.ok.hd hc) hn hst hi (by rw [List.size_toArray]; omega) (by rw [List.size_toArray]; omega) ?_ ?_ ?_ (fin rv)
    all_goals (unfold starV; simp)
theorem pgs_star {X : Cx} {e : Expr} {p : Pos} {es : List Expr} {t : TG} {u : TGs} (h1 : PG X e t) (h2 : PGs X es u)
    (hs : (assignEach (.Starred e p :: es) X.env).map (·.2) = assign e X.env :: (assignEach es X.env).map (·.2) := by rfl) : PGs X (.Starred e p :: es) (gCons t u) := by
  refine ⟨fun pins s σ H vs us Q I r h => ?_⟩
  obtain ⟨v, vr, e1, h⟩ := h
  subst e1
  cases r with
  | cons r rr =>
    rw [hs]
    exact assignInOrder_cons (thn (h1.run pins s σ H _ _ _ I r h) fun _ s1 ⟨σ1, H1, I1, q1⟩ => h2.run pins s1 σ1 H1 _ _ Q I1 rr q1)
section
variable {X : Cx} {e : Expr} {es : List Expr} {pos p : Pos} {g : DG} {vs : List Nat}
theorem dpgs_star {r : DGs} (h1 : PGd X vs e g) (h2 : PGsd X vs es r) (hs : (assignEach (.Starred e p :: es) X.env).map (·.2) = assign e X.env :: (assignEach es X.env).map (·.2) := by rfl) : PGsd X vs (.Starred e p :: es) (gCs g r) :=
  PGs.imp (pgs_star h1 h2 hs) fun us σ H Q ⟨ds, σD, S, F, QD, rr, sl, m, h, k⟩ => by
    unfold gCs at h
    split at h
    · obtain ⟨v, vr, rfl, r1, r2⟩ := rr
      refine ⟨v, vr, rfl, _, σD, S, F, _, r1, sl, m, h, fun σ' H' σD' S' F' o l sl' m' f q => ?_⟩
      exact ⟨_, σD', S', F', QD, Reps.kp (f.kp m) _ _ r2, sl', m', q, fun σ2 H2 σD2 S2 F2 o2 l2 sl2 m2 f2 q2 => k σ2 H2 σD2 S2 F2 (fun j hj => (o2 j hj).trans (o j hj)) (l2.trans l) sl2 m2 (f.trans f2) q2⟩
    · exact h.elim
def seqOf (S : Store) : D → Option (List D)
  | .tup xs => some xs
  | d => lsOf S d
def gStD (n i : Nat) (r : DGs) : DG := fun d σ S Q => match seqOf S d with
  | some xs => n ≤ xs.length + 1 ∧ xs.length ≤ 16384 ∧ r ((starV n i xs).1 ++ [.rl (starV n i xs).2.1] ++ (starV n i xs).2.2) σ S Q
  | none => False
theorem gStD_e {n i : Nat} {r : DGs} {d : DL.D} {σ : DSt} {S : Store} {Q : DSt → Store → Prop} (h : gStD n i r d σ S Q) : ∃ xs, seqOf S d = some xs ∧ n ≤ xs.length + 1 ∧ xs.length ≤ 16384 ∧ r ((starV n i xs).1 ++ [.rl (starV n i xs).2.1] ++ (starV n i xs).2.2) σ S Q := by
  unfold gStD at h
  split at h
  · exact ⟨_, by assumption, h⟩
  · exact h.elim
theorem seqOf_rep {K : PySem.W.Frag} {H : Hp} {S : Store} {F : Own} {d : D} {v : V} {xs : List D} (m : Mod K H S F) (r : Rep K H d v) (e : seqOf S d = some xs) : ∃ p us, v = .ref p ∧ (SqT K H p us ∨ LsM H p us) ∧ Reps K H xs us := by
  unfold seqOf at e
  split at e
  · cases e
    obtain ⟨p, us, rfl, t, r⟩ := r
    exact ⟨p, us, rfl, .inl t, r⟩
  · obtain ⟨p, us, rfl, t, r⟩ := lsOf_rep m r e
    exact ⟨p, us, rfl, .inr t, r⟩
theorem dpg_star {k : Nat} {r : DGs} {n i : Nat} (hc : X.calm = true) (h : PGsd X vs es r) (hi : i < n)
    (hn : (assignEach es X.env).length = n := by rfl) (hst : (assignEach es X.env).findIdx? (·.1) = some i := by rfl) : PGd X vs (.Tuple es k pos) (gStD n i r) :=
  PG.imp (pg_star hc h hi hn hst) fun v σ H Q ⟨d, σD, S, F, QD, rr, sl, m, h, k⟩ => by
    obtain ⟨xs, e, h1, h2, h3⟩ := gStD_e h
    obtain ⟨p, us, rfl, t, r⟩ := seqOf_rep m rr e
    refine ⟨p, us, rfl, t, by rw [← r.length]; exact h1, by rw [← r.length]; exact h2, fun D od hD => ?_⟩
    have m1 : Mod X.K (upd H D (.frz od (.lst (starV n i us).2.1))) S F := m.laid hD
    have kp := kp_new (o := .frz od (.lst (starV n i us).2.1)) hD
    have hl := r.length
    refine ⟨(starV n i xs).1 ++ [.rl (starV n i xs).2.1] ++ (starV n i xs).2.2, σD, S, F, QD, ?_, sl.kp kp, m1, h3, fun σ' H' σD' S' F' o l sl' m' f q => k σ' H' σD' S' F' o l sl' m' ((Fm.laid hD).trans f) q⟩
    have r' := Reps.kp kp _ _ r
    have rz : Rep X.K (upd H D (.frz od (.lst (starV n i us).2.1))) (.rl (starV n i xs).2.1) (.ref D) := ⟨D, _, rfl, ⟨od, upd_same⟩, by
      unfold starV
      rw [hl]
      exact (r'.drop _).take _⟩
    unfold starV at rz ⊢
    rw [hl] at rz ⊢
    exact ((r'.take i).append (Reps.one rz)).append ((r'.drop _).drop _)
/-- (a, b, ..) = a tuple or a list of that length -/
def gSqD (n : Nat) (r : DGs) : DG := fun d σ S Q => match seqOf S d with | some ds => ds.length = n ∧ r ds σ S Q | none => False
end
end DL
/-! ## DL24 -/
namespace DL
open PySem PySem.Spec PyProof.Rows L2
/-! ### while -/
def wWhile (t : DT) (b : DS) : DS := fun D σ S => ∃ I : Nat → DSt → Store → Prop, (∃ n, I n σ S) ∧ ∀ n σ S, I n σ S →
  t σ S (fun c S1 => if c = true then b { D with nx := fun σ' S' => ∃ n', n' < n ∧ I n' σ' S', ct := fun σ' S' => ∃ n', n' < n ∧ I n' σ' S', bk := D.nx } σ S1 else D.nx σ S1) (fun e S' => D.ex e σ S')
theorem dps_while {X : Cx} {W : WX} {c : Expr} {body : List Stmt} {pos : Pos} {wt : DT} {t : DS} (hp : PassesOwn (model X.prog X.w) X.A X.env X.xe) (hc : PTd X W c wt) (hb : PSsd X W body t) : PSd X W (.While c body [] pos) (wWhile wt t) :=
  PS.imp (ps_while hp hc hb) fun D σ H ⟨σD, S, F, DD, sl, m, ⟨I, ⟨n0, i0⟩, st⟩, k⟩ => by
    refine ⟨fun n σ' H' => ∃ σD' S' F', SlR X.K H' σD' σ' ∧ Mod X.K H' S' F' ∧ Fm S F H S' F' H' ∧ I n σD' S', ⟨n0, σD, S, F, sl, m, Fm.refl S F H, i0⟩, ?_⟩
    rintro n σ1 H1 ⟨σD1, S1, F1, sl1, m1, f1, i1⟩
    have k1 := k.after f1
    refine ⟨σD1, S1, F1, _, _, sl1, m1, st n σD1 S1 i1, fun b H2 S2 F2 m2 f2 h2 => ?_, k1.ex.ex m1 sl1⟩
    have f12 := f1.trans f2
    cases b with
    | false => dsimp only at h2 ⊢; rw [if_neg Bool.false_ne_true] at h2 ⊢; exact k1.nx σ1 H2 σD1 S2 F2 (sl1.kp (f2.kp m1)) m2 f2 h2
    | true =>
      dsimp only at h2 ⊢
      rw [if_pos rfl] at h2 ⊢
      refine ⟨fun σ' H' => ∃ n', n' < n ∧ ∃ σD' S' F', SlR X.K H' σD' σ' ∧ Mod X.K H' S' F' ∧ Fm S F H S' F' H' ∧ I n' σD' S', fun σ' H' ⟨n', hn, z⟩ => ⟨n', hn, z⟩, ?_⟩
      have nxt : PostS X.K S2 F2 H2 (fun σ' S' => ∃ n', n' < n ∧ I n' σ' S') (fun σ' H' => ∃ n', n' < n ∧ ∃ σD' S' F', SlR X.K H' σD' σ' ∧ Mod X.K H' S' F' ∧ Fm S F H S' F' H' ∧ I n' σD' S') :=
        fun σ' H' σD' S' F' sl' m' f' ⟨n', hn, q⟩ => ⟨n', hn, σD', S', F', sl', m', f12.trans f', q⟩
      have k2 := k1.after f2
      exact ⟨σD1, S2, F2, _, sl1.kp (f2.kp m1), m2, h2, ⟨nxt, k2.rt, k2.nx, nxt, k2.ex⟩⟩
/-! ### lists walked -/
def iLq (w : DE) : DI := fun σ S Q E => w σ S (fun d S' => withL d S' fun xs => Q xs (fun S => lsOf S d = some xs) S') E
theorem srv_rz {K : PySem.W.Frag} {a : Addr} {ds : List D} : Srv K (Itl K a) ds (fun _ => True) (fun H _ _ => ∃ vs, SqZ H a vs ∧ Reps K H ds vs) where
  bk := fun S F H S' F' H' m f ⟨vs, h1, h2⟩ => ⟨vs, SqZ.kp (f.kp m) h1, Reps.kp (f.kp m) _ _ h2⟩
  go := fun i S F H hi ⟨vs, h1, h2⟩ m _ => ⟨vs, vs[i]'(by rw [← h2.length]; exact hi), (SqF.sq (SqZ.sf h1)), by simp⟩
  stop := fun S F H ⟨vs, h1, h2⟩ m _ => ⟨vs, (SqF.sq (SqZ.sf h1)), by rw [h2.length]; exact Nat.le_refl _⟩
  yld := fun i S F H x H' ⟨vs, h1, h2⟩ m _ ⟨e, y⟩ hi => by
    subst e
    obtain ⟨v, e1, r⟩ := h2.get (List.getElem?_eq_getElem hi)
    have e2 := y vs (SqF.sq (SqZ.sf h1))
    rw [e1] at e2; cases e2
    exact ⟨_, List.getElem?_eq_getElem hi, r, m, Fm.refl _ _ _⟩
/-- the walk asks less of the store than St says -/
theorem Srv.st {K : PySem.W.Frag} {J : It} {ds : List D} {St St' : Store → Prop} {B : SF} (v : Srv K J ds St B) (h : ∀ S, St' S → St S) : Srv K J ds St' B where
  bk := v.bk
  go := fun i S F H hi b m s => v.go i S F H hi b m (h S s)
  stop := fun S F H b m s => v.stop S F H b m (h S s)
  yld := fun i S F H x H' b m s y hi => v.yld i S F H x H' b m (h S s) y hi
section
variable {X : Cx} {W : WX} {e o tg : Expr} {es : List Expr} {w wo we : DE} {ws : DA} {pos p apos cpos : Pos}
theorem lsOf_st {S S' : Store} {a : Addr} {xs : List D} (e : lsOf S (.ref a) = some xs) : S a = some (.lst xs) := by
  unfold lsOf at e
  dsimp only at e
  split at e
  · cases e; assumption
  · cases e
theorem dpi_lq (hl : PEd X W e w) : PId X W tg e (iLq w) := PI.imp (pi_list hl) fun σ H R ⟨σD, S, F, QD, ED, sl, m, h, k, kx⟩ => by
  refine ⟨σD, S, F, _, ED, sl, m, h, fun v H1 d S1 F1 r1 m1 f1 h1 => ?_, kx⟩
  obtain ⟨xs, e1, q⟩ := withL_e h1
  cases d <;> first | (cases e1; done) | skip
  · rename_i a
    have e2 := lsOf_st (S' := S1) e1
    cases r1
    obtain ⟨vs, h2, h3⟩ := m1.obj _ _ e2
    exact ⟨a, rfl, ⟨vs, SqL.of h2⟩, k _ H1 _ _ _ S1 F1 (srv_lst.st fun S h => lsOf_st (S' := S) h) True.intro m1 f1 q⟩
  · have e2 : _ = xs := Option.some.inj e1
    subst e2
    obtain ⟨a, vs, rfl, t, r⟩ := r1
    exact ⟨a, rfl, ⟨vs, SqF.sq (SqZ.sf t)⟩, k _ H1 _ _ _ S1 F1 (srv_rz.st fun _ _ => True.intro) ⟨vs, t, r⟩ m1 f1 q⟩
/-- the signs of a text -/
def sgnD (x : Str) : List D := x.cps.toList.map fun c => .str ⟨#[c]⟩
theorem srv_str {K : PySem.W.Frag} {x : Str} : Srv K (Its x) (sgnD x) (fun _ => True) (fun _ _ _ => True) where
  bk := fun _ _ _ _ _ _ _ _ _ => True.intro
  go := fun i S F H hi _ m _ => by
    have hi : i < x.cps.size := by simpa [sgnD] using hi
    exact hi
  stop := fun S F H _ m _ => by
    have e : (sgnD x).length = x.cps.size := by simp [sgnD]
    rw [e]
    exact Nat.le_refl _
  yld := fun i S F H v H' _ m _ ⟨e1, c, e2, e3⟩ hi => by
    subst e1 e3
    exact ⟨.str ⟨#[c]⟩, by simp [sgnD, e2], rfl, m, Fm.refl _ _ _⟩
def iSg (w : DE) : DI := fun σ S Q E => w σ S (fun d S' => match d with | .str x => Q (sgnD x) (fun _ => True) S' | _ => False) E
theorem dpi_str (hl : PEd X W e w) : PId X W tg e (iSg w) := PI.imp (pi_str hl) fun σ H R ⟨σD, S, F, QD, ED, sl, m, h, k, kx⟩ => by
  refine ⟨σD, S, F, _, ED, sl, m, h, fun v H1 d S1 F1 r1 m1 f1 h1 => ?_, kx⟩
  cases d <;> first | exact h1.elim | skip
  cases r1
  exact ⟨_, rfl, k _ H1 _ _ _ S1 F1 srv_str True.intro m1 f1 h1⟩
/-- enumerate(xs) -/
def enumD (xs : List D) : List D := xs.zipIdx.map fun p => .tup [.int (p.2 : Nat), p.1]
theorem srv_enum {K : PySem.W.Frag} {a : Addr} {ds : List D} {St : Store → Prop} {B : SF} (v : Srv K (Itl K a) ds St B) : Srv K (Ite K a) (enumD ds) St B where
  bk := v.bk
  go := fun i S F H hi b m s => v.go i S F H (by simpa [enumD] using hi) b m s
  stop := fun S F H b m s => by
    have := v.stop S F H b m s
    rw [show (enumD ds).length = ds.length by simp [enumD]]
    exact this
  yld := fun i S F H x H' b m s ⟨T, y, e1, hT, e2, g⟩ hi => by
    have hi : i < ds.length := by simpa [enumD] using hi
    obtain ⟨d, q1, q2, _, _⟩ := v.yld i S F H y H b m s ⟨rfl, g⟩ hi
    subst e1 e2
    refine ⟨.tup [.int (i : Nat), d], ?_, ⟨T, [.int (i : Nat), y], rfl, .inl (.inl upd_same), _, _, rfl, rfl, _, _, rfl, Rep.kp (kp_new hT) _ _ q2, rfl⟩, m.laid hT, Fm.laid hT⟩
    unfold enumD
    rw [List.getElem?_map, List.getElem?_zipIdx, q1]
    simp
def iEn (w : DA) : DI := fun σ S Q E => w σ S (fun ds S' => match ds with | [d] => withL d S' fun xs => Q (enumD xs) (fun S => lsOf S d = some xs) S' | _ => False) E
theorem dpi_enum {elts : List Expr} {kk : Nat} {tpos : Pos} (hg : Gl X "enumerate") (hm : X.mg "enumerate" = none) (ha : PAd X W [e] ws) (hs : starEach [e] X.env = [(false, eval e X.env)] := by rfl) :
    PId X W (.Tuple elts kk tpos) (.Call (.Name "enumerate" p) [e] [] pos) (iEn ws) := PI.imp (pi_enum hg hm ha hs) fun σ H R ⟨σD, S, F, QD, ED, sl, m, h, k, kx⟩ => by
  refine ⟨σD, S, F, _, ED, sl, m, h, fun vs H1 ds S1 F1 r1 m1 f1 h1 => ?_, kx⟩
  dsimp only at h1
  split at h1
  · rename_i d
    obtain ⟨v, vr, rfl, rv, rfl⟩ := r1
    obtain ⟨xs, e1, q⟩ := withL_e h1
    cases d <;> first | (cases e1; done) | skip
    · rename_i a
      have e2 := lsOf_st (S' := S1) e1
      cases rv
      obtain ⟨us, h2, h3⟩ := m1.obj _ _ e2
      exact ⟨a, us, rfl, SqL.of h2, k _ H1 _ _ _ S1 F1 (srv_enum (srv_lst.st fun S h => lsOf_st (S' := S) h)) True.intro m1 f1 q⟩
    · have e2 : _ = xs := Option.some.inj e1
      subst e2
      obtain ⟨a, us, rfl, t, r⟩ := rv
      exact ⟨a, us, rfl, SqF.sq (SqZ.sf t), k _ H1 _ _ _ S1 F1 (srv_enum (srv_rz.st fun _ _ => True.intro)) ⟨us, t, r⟩ m1 f1 q⟩
  · exact h1.elim
/-! ### texts -/
def wM1 (r : D → D → Store → DK → Prop) (wo we : DE) : DE := fun σ S Q E => wo σ S (fun d S1 => we σ S1 (fun y S2 => r d y S2 Q) E) E
def LS1 (K : PySem.W.Frag) (r : V → List V → Hp → VK → Prop) (rD : D → D → Store → DK → Prop) : Prop := ∀ x y H d e S F QD Q, Rep K H d x → Rep K H e y → Mod K H S F → rD d e S QD → Post K S F H QD Q → (∃ a, x = .str a) ∧ r x [y] H Q
theorem strR {K : PySem.W.Frag} {H : Hp} {x : V} {a : Str} (r : Rep K H (.str a) x) : x = .str a := r
def isStr : D → Prop | .str _ => True | _ => False
theorem dpe_sm {id : String} {name : Str} {r : V → List V → Hp → VK → Prop} {rD : D → D → Store → DK → Prop} (slot : Slot "str" name id) (ty : typeOf (.builtin id) = pure (.type "method_descriptor")) (rule : MtR X id r) (hl : LM X.K r (fun d ds S Q => match ds with | [y] => rD d y S Q | _ => False)) (ho : PEd X W o wo) (he : PEd X W e we)
    (hs : starEach [e] X.env = [(false, eval e X.env)] := by rfl) (hbase : attributeBase o name X.env (eval o X.env) = eval o X.env := by rfl) (hline : (apos.endLine == pos.line) = true := by rfl) :
    PEd X W (.Call (.Attribute o name apos) [e] [] pos) (wM1 (fun d y S Q => isStr d ∧ rD d y S Q) (fun σ S Q E => wo σ S (fun d S1 => isStr d ∧ Q d S1) E) we) :=
  PE.imp (pe_m1 slot ty rule ho he hs hbase hline) fun σ H Q ⟨σD, S, F, QD, ED, sl, m, h, k, kx⟩ => by
    refine ⟨σD, S, F, _, ED, sl, m, h, fun v H1 d S1 F1 r1 m1 f1 h1 => ?_, kx⟩
    obtain ⟨hd, h1⟩ := h1
    cases d <;> first | exact hd.elim | skip
    refine ⟨⟨_, r1⟩, σD, S1, F1, _, ED, sl.kp (f1.kp m), m1, h1, fun y H2 e2 S2 F2 r2 m2 f2 h2 => ?_, kx.after f1⟩
    exact hl v [y] H2 _ [e2] S2 F2 QD Q (Rep.kp (f2.kp m1) _ _ r1) (Reps.one r2) m2 h2.2 (k.after (f1.trans f2))
end
def strs? : List D → Option (List Str)
  | [] => some []
  | d :: ds => match d, strs? ds with | .str x, some xs => some (x :: xs) | _, _ => none
theorem strs_map : ∀ xs : List Str, strs? (xs.map D.str) = some xs
  | [] => rfl
  | x :: xs => by
    have e := strs_map xs
    simp only [List.map_cons, strs?, e]
theorem strs_e : ∀ {ds : List D} {xs : List Str}, strs? ds = some xs → ds = xs.map D.str
  | [], _, h => by cases h; rfl
  | d :: ds, xs, h => by
    unfold strs? at h
    split at h
    · cases h
      rw [List.map_cons, ← strs_e (by assumption)]
    · cases h
/-- sep.join(xs) -/
def dJoin (d e : D) (S : Store) (Q : DK) : Prop := match d, seqOf S e with
  | .str a, some ds => (match strs? ds with | some ys => (ys.map (·.length)).sum + ys.length * a.length ≤ 16777216 ∧ Q (.str (Txt.join a ys)) S | none => False)
  | _, _ => False
theorem lm_join {X : Cx} : LM X.K (fun x xs H Q => ∃ a p, ∃ ys : List Str, x = .str a ∧ xs = [.ref p] ∧ (SqL X.K H p (ys.map V.str) ∨ SqT X.K H p (ys.map V.str)) ∧ (ys.map (·.length)).sum + ys.length * a.length ≤ 16777216 ∧ Q (.str (Txt.join a ys)) H) (fun d ds S Q => match ds with | [y] => dJoin d y S Q | _ => False) := by
  intro x vs H d ds S F QD Q r rs m h k
  split at h
  · rename_i e
    obtain ⟨v, vr, rfl, re, rfl⟩ := rs
    unfold dJoin at h
    split at h
    · rename_i a ds2 e1
      split at h
      · rename_i ys e2
        cases r
        obtain ⟨p, us, rfl, t, rr⟩ := seqOf_rep m re e1
        rw [strs_e e2] at rr
        rw [Reps.strs rr] at t
        refine ⟨a, p, ys, rfl, rfl, ?_, h.1, k (.str _) H (.str _) S F rfl m (Fm.refl S F H) h.2⟩
        rcases t with t | t
        · exact .inr t
        · exact .inl t.sq
      · exact h.elim
    · exact h.elim
  · exact h.elim
/-- s.split(sep): a new list -/
def wSplit (wo we : DE) : DA := fun σ S Q E => wo σ S (fun d S1 => isStr d ∧ we σ S1 (fun y S2 => match d, y with | .str a, .str b => ((b.length == 0) = false ∧ a.length + 2 ≤ sizeLine) ∧ Q ((Txt.split a b).map D.str) S2 | _, _ => False) E) E
theorem reps_strs {K : PySem.W.Frag} {H : Hp} : ∀ ys : List Str, Reps K H (ys.map D.str) (ys.map V.str)
  | [] => rfl
  | _ :: ys => ⟨_, _, rfl, rfl, reps_strs ys⟩
section
variable {X : Cx} {W : WX} {e o tg : Expr} {es : List Expr} {w wo we : DE} {ws : DA} {pos p apos cpos : Pos}
theorem dpl_split (ho : PEd X W o wo) (he : PEd X W e we) (hs : starEach [e] X.env = [(false, eval e X.env)] := by rfl) (hbase : attributeBase o "split" X.env (eval o X.env) = eval o X.env := by rfl) (hline : (apos.endLine == pos.line) = true := by rfl) :
    PLd X W (.Call (.Attribute o "split" apos) [e] [] pos) (wSplit wo we) :=
  PE.imp (pe_split ho he hs hbase hline) fun σ H Q ⟨σD, S, F, QD, ED, sl, m, h, k, kx⟩ => by
    refine ⟨σD, S, F, _, ED, sl, m, h, fun v H1 d S1 F1 r1 m1 f1 h1 => ?_, kx⟩
    obtain ⟨hd, h1⟩ := h1
    cases d <;> first | exact hd.elim | skip
    rename_i a
    cases r1
    refine ⟨⟨_, rfl⟩, σD, S1, F1, _, ED, sl.kp (f1.kp m), m1, h1, fun y H2 e2 S2 F2 r2 m2 f2 h2 => ?_, kx.after f1⟩
    cases e2 <;> first | exact h2.elim | skip
    rename_i b
    cases r2
    refine ⟨a, b, rfl, rfl, h2.1.1, h2.1.2, fun l hl => ?_⟩
    obtain ⟨hs, hf⟩ := m2.fresh hl
    exact k l _ _ _ S2 F2 upd_same hs hf (Nw.back (f1.trans f2) (.inr (.inr hl))) (reps_strs _) (m2.laid hl) ((f1.trans f2).trans (Fm.laid hl)) h2.2
end
def dStrip (d e : D) (S : Store) (Q : DK) : Prop := match d, e with | .str a, .str b => a.length ≤ sizeLine ∧ Q (.str (Txt.stripChars a b)) S | _, _ => False
theorem lm_strip {K : PySem.W.Frag} : LM K (fun x xs H Q => ∃ a b, x = .str a ∧ xs = [.str b] ∧ a.length ≤ sizeLine ∧ Q (.str (Txt.stripChars a b)) H) (fun d ds S Q => match ds with | [y] => dStrip d y S Q | _ => False) := by
  intro x vs H d ds S F QD Q r rs m h k
  split at h
  · rename_i e
    obtain ⟨v, vr, rfl, re, rfl⟩ := rs
    unfold dStrip at h
    split at h
    · rename_i a b
      cases r; cases re
      exact ⟨a, b, rfl, rfl, h.1, k (.str _) H (.str _) S F rfl m (Fm.refl S F H) h.2⟩
    · exact h.elim
  · exact h.elim
/-- int(x): of an int, a bool, a text -/
theorem CallR.or {X : Cx} {f : Value} {r r' : List V → Hp → VK → Prop} (h : CallR X f r) (h' : CallR X f r') : CallR X f (fun xs H Q => r xs H Q ∨ r' xs H Q) := fun pins s σ H xs us Q I rx q => by
  rcases q with q | q
  · exact h pins s σ H xs us Q I rx q
  · exact h' pins s σ H xs us Q I rx q
def dIntX (ds : List D) (S : Store) (Q : DK) : Prop := match ds with
  | [.int i] => Q (.int i) S
  | [.bl b] => Q (.int (if b then 1 else 0)) S
  | [.str a] => (match PySem.intText? a with | some n => a.length ≤ 640 ∧ Q (.int n) S | none => False)
  | _ => False
theorem lc_intX {K : PySem.W.Frag} : LCA K (fun xs H Q => ((∃ i, xs = [.int i] ∧ Q (.int i) H) ∨ ∃ k, xs = [.bl k] ∧ Q (.int (if k then 1 else 0)) H) ∨ ∃ a n, xs = [.str a] ∧ PySem.intText? a = some n ∧ a.length ≤ 640 ∧ Q (.int n) H) dIntX := by
  intro vs H ds S F QD Q r m h k
  unfold dIntX at h
  split at h
  · exact .inl (lc_int vs H _ S F QD Q r m h k)
  · exact .inl (lc_int vs H _ S F QD Q r m h k)
  · rename_i a
    obtain ⟨v, vr, rfl, r1, rfl⟩ := r
    cases r1
    split at h
    · rename_i n e
      exact .inr ⟨a, n, rfl, e, h.1, k (.int _) H (.int _) S F rfl m (Fm.refl S F H) h.2⟩
    · exact h.elim
  · exact h.elim
/-! ### in: a sign of a text; flat values -/
def dInS (neg : Bool) : RD2 := fun d e S Q => match d, e with
  | .str ⟨⟨[c]⟩⟩, .str z => Q (.bl (eqB neg (decide (c ∈ z.cps.toList)))) S
  | _, _ => False
def dInF (neg : Bool) : RD2 := fun d e S Q => match flatD d, seqOf S e with
  | some x, some ys => (match flatDs ys with | some us => Q (.bl (eqB neg (inV x us))) S | none => False)
  | _, _ => False
theorem lr_inF {K : PySem.W.Frag} {neg : Bool} : LR2 K (rIn K neg) (dInF neg) := by
  intro x y H d e S F QD Q rx ry m h k
  unfold dInF at h
  split at h
  · rename_i u ys q q1
    split at h
    · rename_i us q2
      obtain ⟨p, vs, rfl, t, r⟩ := seqOf_rep m ry q1
      obtain ⟨e1, e2⟩ := flatD_e q rx
      obtain ⟨e3, e4⟩ := flatDs_e q2 r
      subst e1 e3
      refine ⟨p, _, rfl, ?_, e2, e4, k (.bl _) H (.bl _) S F (by unfold eqB; rfl) m (Fm.refl S F H) h⟩
      rcases t with t | t
      · exact .inr t
      · exact .inl t.sq
    · exact h.elim
  · exact h.elim
theorem lr_inS {K : PySem.W.Frag} : LR2 K (fun x y H Q => ∃ (c : Nat) (z : Str), x = .str ⟨#[c]⟩ ∧ y = .str z ∧ Q (.bl (decide (c ∈ z.cps.toList))) H) (dInS false) := by
  intro x y H d e S F QD Q rx ry m h k
  unfold dInS at h
  split at h
  · cases rx; cases ry
    exact ⟨_, _, rfl, rfl, k (.bl _) H (.bl _) S F rfl m (Fm.refl S F H) h⟩
  · exact h.elim
/-! ### methods' places in their class -/
structure DefM (K : PySem.W.Frag) (C : Addr) (m qual : Str) (st : Stmt) (f : Addr) (fd : FuncData) : Prop where
  fn : Fun K m qual st f fd
  me : Meth K C m f
/-- __init__ -/
structure DefI (K : PySem.W.Frag) (mg : Str → Option Value) (x : Str) (C : Addr) (qual : Str) (st : Stmt) (f : Addr) (fd : FuncData) : Prop where
  fn : Fun K "__init__" qual st f fd
  mks : Mk K C f
  at_ : mg x = some (.ref C)
theorem Fun.okR {P : Program} {w : World} {K : PySem.W.Frag} {mg : Str → Option Value} {base : Heap} {x qual : Str} {st : Stmt} {f : Addr} {fd : FuncData} {N ps : List Str} {k : Nat} {sp : SpD} (G : Fun K x qual st f fd) (Sc : FnScope N ps (defScope st)) (len : ∀ ds S Q E, sp ds S Q E → ds.length = ps.length)
    (hbody : ∀ (cdv : Value) (A : Around) (outer : List Env) (s : Shared) (H : Hp) (E : XK), Room k (A.deeper (envOfC qual (defScope st) s.heap.objs.size f cdv)) →
      ∃ t, PSsd (cxOf (L2.CX P w) P w K mg base N qual (defScope st) f cdv A outer s H E) (fun cls d _ H => E cls d H) (defBody st) t ∧
        ∀ ds S Q ED, sp ds S Q ED → t { nx := fun _ S' => Dr Q .non S', rt := Dr Q, ex := fun e _ S' => DrX ED e S' } (startD N ds) S) : FnD P w K mg base (k + 1) f fd ps sp := by
  have h0 : FnD P w K mg base (k + 1) f fd ps (fun ds S Q E => ∃ Q' E', Q = Dr Q' ∧ E = DrX E' ∧ sp ds S Q' E') :=
    Fun.okD G Sc (fun ds S Q E ⟨Q', E', _, _, h⟩ => len ds S Q' E' h) fun cdv A outer s H E hr => by
      obtain ⟨t, ht, hw⟩ := hbody cdv A outer s H E hr
      exact ⟨t, ht, fun ds S Q ED ⟨Q', E', e1, e2, h⟩ => by rw [e1, e2]; exact hw ds S Q' E' h⟩
  exact h0.imp fun vs H Q E ⟨ds, S, F, QD, ED, r, m, h, kq, kx⟩ => ⟨ds, S, F, Dr QD, DrX ED, r, m, ⟨QD, ED, rfl, rfl, h⟩, kq.dr, kx.dr⟩
theorem FnD.impD {P : Program} {w : World} {K : PySem.W.Frag} {mg : Str → Option Value} {base : Heap} {f : Addr} {fd : FuncData} {ps : List Str} {k : Nat} {sp sp' : SpD} (G : FnD P w K mg base k f fd ps sp) (h : ∀ ds S Q E, sp' ds S Q E → sp ds S Q E) : FnD P w K mg base k f fd ps sp' :=
  FnOk.imp G fun vs H Q E ⟨ds, S, F, QD, ED, r, m, z, kq, kx⟩ => ⟨ds, S, F, QD, ED, r, m, h _ _ _ _ z, kq, kx⟩
theorem FnD.close {P : Program} {w : World} {K : PySem.W.Frag} {mg : Str → Option Value} {base : Heap} {f : Addr} {fd : FuncData} {ps : List Str} {k : Nat} {sp : SpD} (G : FnD P w K mg base k f fd ps sp) : FnD P w K mg base k f fd ps (closeSp sp) := FnOk.imp G fun vs H Q E h => upSp_close h
theorem FnD.mono {P : Program} {w : World} {K : PySem.W.Frag} {mg : Str → Option Value} {base : Heap} {f : Addr} {fd : FuncData} {ps : List Str} {j k : Nat} {sp : SpD} (G : FnD P w K mg base j f fd ps sp) (h : j ≤ k) : FnD P w K mg base k f fd ps sp := FnOk.mono G h
/-- a new instance is closed at the end of its __init__ -/
def sealSp (sp : SpD) : SpD := fun ds S Q E => ∃ a ds' C, ds = .ref a :: ds' ∧ sp ds S (fun d S' => ∃ fs' sub' S'', Cls2 a C fs' sub' S' S'' ∧ Q d S'') E
theorem upSp_seal {K : PySem.W.Frag} {mg : Str → Option Value} {sp : SpD} {vs : List V} {H : Hp} {Q : VK} {E : XK} (h : upSp K mg (sealSp sp) vs H Q E) : upSp K mg sp vs H Q E := by
  obtain ⟨ds, S, F, QD, ED, r, m, ⟨a, ds', C, e1, h⟩, kq, kx⟩ := h
  refine ⟨ds, _, _, _, _, r, m, h, fun v H' d S' F' rr m' f' ⟨fs', sub', S'', c, q⟩ => ?_, kx⟩
  obtain ⟨m2, f2⟩ := own_close m' c.at_ c.nd c.sub f'
  exact kq v H' d _ _ rr (m2.less (cls2_less c)) (f2.less (cls2_less c)) q
theorem FnD.seal {P : Program} {w : World} {K : PySem.W.Frag} {mg : Str → Option Value} {base : Heap} {f : Addr} {fd : FuncData} {ps : List Str} {k : Nat} {sp : SpD} (G : FnD P w K mg base k f fd ps sp) : FnD P w K mg base k f fd ps (sealSp sp) := FnOk.imp G fun vs H Q E h => upSp_seal h
/-! ### what calls bind -/
section
variable {K : PySem.W.Frag} {x qual : Str} {st : Stmt} {f : Addr} {fd : FuncData} {ps : List Str}
theorem kb_plain (h : Binds K fd ps []) : KB K fd ps ps.length [] [] [] := ⟨[], [], .nil, fun _ => rfl, rfl, rfl, fun s us ws X l1 l2 => by
  cases ws with
  | cons => cases l2
  | nil =>
    have := h s us X (by rw [List.append_nil]; exact l1)
    simpa [fillP] using this⟩
theorem kb_kw {n : Nat} {ks : List Str} {pl : List (Option Nat)} {ms : List (Str × V × D)} {D' : Addr} {oc doc pm cdv ct : Value} {od an : Option Addr} {osl : Array (Option Value)}
    (lk : K.lookup f = some ⟨oc, od, .func (PySem.W.fnOf x qual (defArgs st) (defBody st) (defScope st) .none (.ref D') doc pm an cdv ct), osl⟩)
    (hq : ∀ q ∈ ms, ∃ u, PySem.W.nsIn K D' q.1 = some (some u) ∧ RelV q.2.1 u ∧ ∀ H, Rep K H q.2.2 q.2.1) (dD : List D) (dV : (List V)) (hl : pl.length = dD.length) (hp : ps.length = n + pl.length)
    (hd : ∀ us : List Value, us.length = ms.length → Vals (ms.map (·.2.1)) us → ∃ dU : List Value, Vals dV dU ∧ ∀ (ws vs : List Value), vs.length = n → ws.length = ks.length →
      KwChain D' ((ms.map (·.1)).zip us) (bindArgs (PySem.W.fnOf x qual (defArgs st) (defBody st) (defScope st) .none (.ref D') doc pm an cdv ct) ⟨vs, ks.zip ws⟩) (ps.zip (vs ++ fillP pl dU ws)))
    (hr : ∀ H, Reps K H dD dV) : KB K (PySem.W.fnOf x qual (defArgs st) (defBody st) (defScope st) .none (.ref D') doc pm an cdv ct) ps n ks pl dD := by
  obtain ⟨us, l, r, a⟩ := kwd_vals (K := K) (D := D') (ms := ms.map fun q => (q.1, q.2.1)) fun q hm => by
    obtain ⟨z, hz, rfl⟩ := List.mem_map.mp hm
    obtain ⟨u, e1, e2, _⟩ := hq z hz
    exact ⟨u, e1, e2⟩
  rw [List.map_map] at r a
  obtain ⟨dU, rv, h⟩ := hd us (by simpa using l) r
  refine ⟨dU, dV, rv, hr, hl, hp, fun s vs ws X l1 l2 => BindsTo.of_looks fun M => ?_⟩
  exact KwChain.looks X a (h ws vs l1 l2)
end
end DL
/-! ## DL25 -/
namespace DL
open PySem PySem.Spec PyProof.Rows L2
theorem Room.u65 {k : Nat} {A : Around} (r : Room k A) : A.units + 65 < cLine := by have := r.un; omega
theorem Room.u1 {k : Nat} {A : Around} (r : Room k A) : A.units + 1 < cLine := by have := r.un; omega
/-! ### == of any values -/
def scalEq : D → D → Option Bool
  | .non, .non => some true | .int i, .int j => some (decide (i = j)) | .bl i, .bl j => some (decide (i = j)) | .str i, .str j => some (decide (i = j))
  | .non, .int _ => some false | .non, .bl _ => some false | .non, .str _ => some false | .int _, .non => some false | .bl _, .non => some false | .str _, .non => some false
  | .int _, .str _ => some false | .str _, .int _ => some false | .bl _, .str _ => some false | .str _, .bl _ => some false
  | _, _ => none
def dEqA (neg : Bool) : RD2 := fun d e S Q => match scalEq d e with
  | some b => Q (.bl (eqB neg b)) S
  | none => dEqX neg d e S Q
theorem scal_rep {K : PySem.W.Frag} {H : Hp} : ∀ {d e : D} {x y : V} {b : Bool}, scalEq d e = some b → Rep K H d x → Rep K H e y → scal x y = true ∧ decide (x = y) = b := by
  intro d e x y b h rx ry
  unfold scalEq at h
  split at h <;> first | (cases h; done) | skip
  all_goals (cases h; cases rx; cases ry; refine ⟨rfl, ?_⟩; simp)
theorem lr_eqA {K : PySem.W.Frag} : LR2 K (fun x y H Q => rEq x y H Q ∨ rEqD K x y H Q) (dEqA false) := by
  intro x y H d e S F QD Q rx ry m h k
  unfold dEqA at h
  split at h
  · rename_i b hb
    obtain ⟨h1, h2⟩ := scal_rep hb rx ry
    exact .inl ⟨h1, by rw [h2]; exact k (.bl _) H (.bl _) S F rfl m (Fm.refl S F H) h⟩
  · exact .inr (lr_eqX _ _ _ _ _ _ _ _ _ rx ry m h k)
theorem lr_neA {K : PySem.W.Frag} : LR2 K (fun x y H Q => rNe x y H Q ∨ rNeD K x y H Q) (dEqA true) := by
  intro x y H d e S F QD Q rx ry m h k
  unfold dEqA at h
  split at h
  · rename_i b hb
    obtain ⟨h1, h2⟩ := scal_rep hb rx ry
    exact .inl ⟨h1, by rw [h2]; exact k (.bl _) H (.bl _) S F rfl m (Fm.refl S F H) h⟩
  · exact .inr (lr_neX _ _ _ _ _ _ _ _ _ rx ry m h k)
section
variable {X : Cx} {W : WX} {e c it tg elt : Expr} {es : List Expr} {w : DE} {wt : DT} {ws : DA} {g : DG} {pos p : Pos}
theorem op_eqA (hu : X.A.units + 64 < cLine) : OpR X (compareOp .Eq) (fun x y H Q => rEq x y H Q ∨ rEqD X.K x y H Q) := OpR.or op_eq (op_eqD hu)
theorem op_neA (hu : X.A.units + 64 < cLine) : OpR X (compareOp .NotEq) (fun x y H Q => rNe x y H Q ∨ rNeD X.K x y H Q) := OpR.or op_ne (op_neD hu)
/-- name = [..] within the comprehension's frame, told by value -/
theorem ps_frz {X : Cx} {st : Stmt} {t : TS} (h : PS X st t) : PS X st (fun D σ H => t { D with nx := fun σ' H' => ∃ l vs, H' l = some (.lst vs) ∧ ∀ od, D.nx σ' (upd H' l (.frz od (.lst vs))) } σ H) := by
  refine ⟨fun pins s σ H D I hw => ?_⟩
  refine thn (h.run pins s σ H _ I hw) fun f s1 q => ?_
  cases f with
  | next =>
    obtain ⟨σ', H', I2, l, vs, hl, q⟩ := q
    obtain ⟨od, I3⟩ := I2.lock hl True.intro
    exact ⟨σ', _, I3, q od⟩
  | brk => exact q
  | cont => exact q
  | ret v => exact q
theorem dps_setLcZ {i : Nat} {y : Str} {py : Pos} {ifs : List Expr} {scope : Scope} {own : List (Str × Nat)} {spos : Pos} {wi : DI} (hc : X.calm = true) (hN : X.N.Nodup) (hy : X.N[i]? = some y) (hyl : X.env.scope.names.lookup y = some .local)
    (hsw : swapsWith (.ListComp elt [⟨tg, it, ifs, 0⟩] scope pos) (some (.Name y py)) spos.line X.env = pure true) (hi : PId X W tg it wi) (ok : BlkOk X.N X.env.scope scope own)
    (hg : ∀ (s : Shared) (H : Hp) (C : Addr) (cl : List (Str × Addr)) (fp : List Addr), PGd (X.blk s H scope (compEnvC scope cl C X.env) fp) (own.map (·.2)) tg g) (ht : ∀ (s : Shared) (H : Hp) (C : Addr) (cl : List (Str × Addr)) (fp : List Addr), PTsd (X.blk s H scope (compEnvC scope cl C X.env) fp) WF ifs wt)
    (he : ∀ (s : Shared) (H : Hp) (C : Addr) (cl : List (Str × Addr)) (fp : List Addr), PEd (X.blk s H scope (compEnvC scope cl C X.env) fp) WF elt w) (hs : ∀ x, foldedSetIterable it X.env x = pure x := by intro _; rfl) :
    PSd X W (.Assign [.Name y py] (.ListComp elt [⟨tg, it, ifs, 0⟩] scope pos) spos) (wAsg (wFz (wLc wi g wt w (own.map (·.2)))) (gNm i)) :=
  PS.imp (ps_frz (ps_setLc hc hN hy hyl hsw hi ok hg ht he hs)) fun D σ H ⟨σD, S, F, DD, sl, m, h, k⟩ => by
    refine lc_imp (Q := fun x H1 => gName i x σ H1 _) ⟨σD, S, F, _, _, sl, m, h, fun p vs H1 ds S1 F1 h1 h2 h3 n r1 m1 f1 q => ?_, k.ex.ex m sl⟩
    refine ⟨p, vs, h1, fun od => ?_⟩
    exact k.nx _ _ _ S1 F1 (((sl.kp (f1.kp m)).kp (kp_frz h1)).set i (rep_frz h1 r1)) (m1.frz h1 h2 h3) (f1.over n) q
/-- a, b, c = e1, e2, e3 -/
def wPar3 (i j l : Nat) (a : DA) : DS := fun D σ S => a σ S (fun ds S' => match ds with | [d, e, f] => D.nx (((σ.set i (some d)).set j (some e)).set l (some f)) S' | _ => False) (fun e S' => D.ex e σ S')
theorem dps_par3 {i j l : Nat} {x y z : Str} {a b c : Expr} {px py pz pt pos : Pos} {kt k2 pt2} (hc : X.calm = true) (hN : X.N.Nodup) (hi : X.N[i]? = some x) (hj : X.N[j]? = some y) (hl : X.N[l]? = some z) (hij : i ≠ j) (hil : i ≠ l) (hjl : j ≠ l)
    (hx : X.env.scope.names.lookup x = some .local) (hy : X.env.scope.names.lookup y = some .local) (hz : X.env.scope.names.lookup z = some .local) (ha : PAd X W [a, b, c] ws)
    (hw : swappedStores [.Tuple [.Name x px, .Name y py, .Name z pz] kt pt] (.Tuple [a, b, c] k2 pt2) X.env = pure (some [x, y, z]))
    (hs : swapsWithSole [.Tuple [.Name x px, .Name y py, .Name z pz] kt pt] (.Tuple [a, b, c] k2 pt2) pos.line X.env = pure false := by rfl) :
    PSd X W (.Assign [.Tuple [.Name x px, .Name y py, .Name z pz] kt pt] (.Tuple [a, b, c] k2 pt2) pos) (wPar3 i j l ws) := PS.imp (ps_par3 hc hN hi hj hl hij hil hjl hx hy hz ha hw hs) fun D σ H ⟨σD, S, F, DD, sl, m, h, k⟩ => by
  refine ⟨σD, S, F, _, _, sl, m, h, fun vs H' ds S' F' r m' f q => ?_, k.ex.ex m sl⟩
  dsimp only at q
  split at q
  · obtain ⟨v, vr, rfl, r1, v2, vr2, rfl, r2, v3, vr3, rfl, r3, rfl⟩ := r
    exact ⟨v, v2, v3, rfl, k.nx _ H' _ S' F' ((((sl.kp (f.kp m)).set i r1).set j r2).set l r3) m' f q⟩
  · exact q.elim
end
end DL
/-! ## DL26 -/
namespace DL
open PySem PySem.Spec PyProof.Rows L2
theorem dps_never {X : Cx} {W : WX} {st : Stmt} : PSd X W st (fun _ _ _ => False) := PS.imp ps_never fun _ _ _ ⟨_, _, _, _, _, _, h, _⟩ => h.elim
/-! ### data of ints, texts -/
theorem dataDs_ints : ∀ ns : List Int, dataDs (ns.map D.int) = some (ns.map PyData.int)
  | [] => rfl
  | n :: ns => by rw [List.map_cons, List.map_cons]; exact dataDs_cons rfl (dataDs_ints ns)
theorem dataD_ti (ns : List Int) : dataD (.tup (ns.map D.int)) = some (.tuple (ns.map .int)) := by rw [dataD, dataDs_ints]; rfl
theorem dataD_li (ns : List Int) : dataD (.rl (ns.map D.int)) = some (.list (ns.map .int)) := by rw [dataD, dataDs_ints]; rfl
theorem dataS_tup {S : Store} {ds : List D} : dataS S (.tup ds) = dataD (.tup ds) := rfl
theorem dataS_rl {S : Store} {ds : List D} : dataS S (.rl ds) = dataD (.rl ds) := rfl
theorem dataS_int {S : Store} {i : Int} : dataS S (.int i) = some (.int i) := by simp [dataS, dataD]
theorem dataS_str {S : Store} {i : Str} : dataS S (.str i) = some (.str i) := by simp [dataS, dataD]
theorem dataS_non {S : Store} : dataS S .non = some .none := by simp [dataS, dataD]
theorem dataS_ref {S : Store} {a : Addr} {ds : List D} (h : S a = some (.lst ds)) : dataS S (.ref a) = (dataDs ds).map .list := by simp only [dataS, h]
theorem dataD_nil : dataD (.rl []) = some (.list []) := by simp [dataD, dataDs]
theorem eqX_of {neg : Bool} {d e : D} {p q : PyData} {S : Store} {Q : DK} (h1 : dataS S d = some p) (h2 : dataS S e = some q) (s1 : SeqAt.shaped p = true) (s2 : SeqAt.shaped q = true) (h : Q (.bl (eqB neg (PyData.eqv p q))) S) : dEqX neg d e S Q := ⟨p, q, h1, h2, s1, s2, h⟩
theorem inD_of {neg : Bool} {d e : D} {p : PyData} {qs : List PyData} {S : Store} {Q : DK} (h1 : dataS S d = some p) (h2 : dataS S e = some (.list qs)) (s1 : SeqAt.shaped p = true) (s2 : SeqAt.shaped (.list qs) = true) (h : Q (.bl (eqB neg (qs.any fun z => PyData.eqv z p))) S) : dInD neg d e S Q := ⟨p, qs, h1, h2, s1, s2, h⟩
/-! ### without truth values, == of data is being the same -/
mutual
def nbP : PyData → Bool
  | .bool _ => false
  | .dict _ => false
  | .list xs => nbPs xs
  | .tuple xs => nbPs xs
  | _ => true
def nbPs : List PyData → Bool
  | [] => true
  | x :: xs => nbP x && nbPs xs
end
mutual
theorem eqv_nb : ∀ p q : PyData, nbP p = true → nbP q = true → (PyData.eqv p q = true ↔ p = q)
  | .none, q, _, h => by cases q <;> simp [PyData.eqv]
  | .bool _, _, h, _ => by simp [nbP] at h
  | .dict _, _, h, _ => by simp [nbP] at h
  | .int i, q, _, h => by cases q <;> first | (simp [PyData.eqv]; done) | (simp [nbP] at h; done)
  | .str i, q, _, h => by cases q <;> first | (simp [PyData.eqv]; done) | (simp [nbP] at h; done)
  | .list xs, q, h, h2 => by
    cases q <;> first | (simp [PyData.eqv]; done) | skip
    rename_i ys
    rw [nbP] at h h2
    simp only [PyData.eqv, PyData.list.injEq]
    exact eqvAll_nb xs ys h h2
  | .tuple xs, q, h, h2 => by
    cases q <;> first | (simp [PyData.eqv]; done) | skip
    rename_i ys
    rw [nbP] at h h2
    simp only [PyData.eqv, PyData.tuple.injEq]
    exact eqvAll_nb xs ys h h2
theorem eqvAll_nb : ∀ ps qs : List PyData, nbPs ps = true → nbPs qs = true → (PyData.eqvAll ps qs = true ↔ ps = qs)
  | [], [], _, _ => by simp [PyData.eqvAll]
  | [], _ :: _, _, _ => by simp [PyData.eqvAll]
  | _ :: _, [], _, _ => by simp [PyData.eqvAll]
  | p :: ps, q :: qs, h, h2 => by
    rw [nbPs, Bool.and_eq_true] at h h2
    simp only [PyData.eqvAll, Bool.and_eq_true, List.cons.injEq]
    rw [eqv_nb p q h.1 h2.1, eqvAll_nb ps qs h.2 h2.2]
end
theorem eqv_dec {p q : PyData} {P : Prop} [Decidable P] (h1 : nbP p = true) (h2 : nbP q = true) (h : p = q ↔ P) : PyData.eqv p q = decide P := by
  rw [Bool.eq_iff_iff, eqv_nb p q h1 h2, decide_eq_true_eq, h]
theorem eqv_self {p : PyData} (h : nbP p = true) : PyData.eqv p p = true := (eqv_nb p p h h).mpr rfl
theorem nbPs_ints : ∀ ns : List Int, nbPs (ns.map .int) = true
  | [] => by simp [nbPs]
  | n :: ns => by rw [List.map_cons, nbPs, nbPs_ints ns]; simp [nbP]
theorem nbPs_all {ps : List PyData} (h : ∀ p ∈ ps, nbP p = true) : nbPs ps = true := by
  induction ps with
  | nil => simp [nbPs]
  | cons p ps ih => rw [nbPs, h p List.mem_cons_self, ih fun x m => h x (List.mem_cons_of_mem _ m)]; rfl
/-! ### alike: the same data is alike -/
mutual
def gd : D → Bool
  | .non => true | .bl _ => true | .int _ => true | .str _ => true
  | .tup ds => decide (ds.length ≤ 1000000) && gds ds
  | .rl ds => decide (ds.length ≤ 1000000) && gds ds
  | _ => false
def gds : List D → Bool
  | [] => true
  | d :: ds => gd d && gds ds
end
mutual
def dep : D → Nat
  | .tup ds => deps ds + 1
  | .rl ds => deps ds + 1
  | _ => 1
def deps : List D → Nat
  | [] => 0
  | d :: ds => max (dep d) (deps ds)
end
theorem gds_mem : ∀ {ds : List D}, gds ds = true → ∀ d ∈ ds, gd d = true
  | x :: xs, h, d, m => by
    rw [gds, Bool.and_eq_true] at h
    rcases List.mem_cons.mp m with e | m
    · rw [e]; exact h.1
    · exact gds_mem h.2 d m
theorem deps_mem : ∀ {ds : List D} {n : Nat}, deps ds ≤ n → ∀ d ∈ ds, dep d ≤ n
  | x :: xs, n, h, d, m => by
    rw [deps] at h
    rcases List.mem_cons.mp m with e | m
    · rw [e]; omega
    · exact deps_mem (by omega) d m
theorem alk_refl : ∀ {n : Nat} {d : D} {S : Store}, gd d = true → dep d ≤ n → Alk n S d d
  | 0, d, _, _, h => by cases d <;> simp [dep] at h
  | n + 1, .non, _, _, _ => rfl
  | n + 1, .bl _, _, _, _ => rfl
  | n + 1, .int _, _, _, _ => rfl
  | n + 1, .str _, _, _, _ => rfl
  | n + 1, .tup ds, S, g, h => by
    rw [gd, Bool.and_eq_true, decide_eq_true_eq] at g
    rw [dep] at h
    refine ⟨ds, rfl, rfl, by omega, fun i f d hf hd => ?_⟩
    rw [hf] at hd
    cases hd
    exact alk_refl (gds_mem g.2 f (List.mem_of_getElem? hf)) (deps_mem (by omega) f (List.mem_of_getElem? hf))
  | n + 1, .rl ds, S, g, h => by
    rw [gd, Bool.and_eq_true, decide_eq_true_eq] at g
    rw [dep] at h
    refine ⟨ds, rfl, rfl, by omega, fun i f d hf hd => ?_⟩
    rw [hf] at hd
    cases hd
    exact alk_refl (gds_mem g.2 f (List.mem_of_getElem? hf)) (deps_mem (by omega) f (List.mem_of_getElem? hf))
  | n + 1, .ref _, _, g, _ => by simp [gd] at g
  | n + 1, .fn _ _, _, g, _ => by simp [gd] at g
  | n + 1, .fnS _ _ _, _, g, _ => by simp [gd] at g
  | n + 1, .kl _, _, g, _ => by simp [gd] at g
/-- a list of the store, the same as one by value -/
theorem alk_ref_rl {n : Nat} {a : Addr} {ds : List D} {S : Store} (e : S a = some (.lst ds)) (g : gd (.rl ds) = true) (h : dep (.rl ds) ≤ n + 1) : Alk (n + 1) S (.ref a) (.rl ds) := by
  rw [gd, Bool.and_eq_true, decide_eq_true_eq] at g
  rw [dep] at h
  refine ⟨ds, lsOf_ref e, rfl, by omega, fun i f d hf hd => ?_⟩
  rw [hf] at hd
  cases hd
  exact alk_refl (gds_mem g.2 f (List.mem_of_getElem? hf)) (deps_mem (by omega) f (List.mem_of_getElem? hf))
end DL
/-! ## DL27 -/
namespace DL
open PySem PySem.Spec PyProof.Rows L2
def isL2 (d : D) (S : Store) : Prop := (lsOf S d).isSome = true
theorem ty_list2 {K : PySem.W.Frag} : TyM K "list" isL2 := fun x H d S F r m h => by
  obtain ⟨xs, e⟩ := Option.isSome_iff_exists.mp h
  obtain ⟨p, vs, rfl, t, _⟩ := lsOf_rep m r e
  exact .inl ⟨rfl, vs, t.sq⟩
def dCountX : RM := fun d ds S Q => match lsOf S d, ds with
  | some xs, [.bl k] => (match asBls xs with | some bs => Q (.int (bs.count k : Nat)) S | none => False)
  | _, _ => False
theorem lm_countX {K : PySem.W.Frag} : LM K (rCntB K) dCountX := fun x vs H d ds S F QD Q r rs m h k => by
  unfold dCountX at h
  split at h
  · rename_i xs kk e
    split at h
    · rename_i bs q
      obtain ⟨p, us, rfl, t, rr⟩ := lsOf_rep m r e
      obtain ⟨v, vr, rfl, rv, rfl⟩ := rs
      cases rv
      rw [asBls_e q] at rr
      rw [rr.bls] at t
      exact ⟨p, bs, kk, rfl, rfl, t.sq, k (.int _) H (.int _) S F rfl m (Fm.refl S F H) h⟩
    · exact h.elim
  · exact h.elim
def dIndexX : RM := fun d ds S Q => match lsOf S d, ds with
  | some xs, [.bl k] => (match asBls xs with | some bs => (match bs.idxOf? k with | some j => Q (.int (j : Nat)) S | none => False) | none => False)
  | _, _ => False
theorem lm_indexX {K : PySem.W.Frag} : LM K (rIndex K) dIndexX := fun x vs H d ds S F QD Q r rs m h k => by
  unfold dIndexX at h
  split at h
  · rename_i xs kk e
    split at h
    · rename_i bs q
      split at h
      · rename_i j qj
        obtain ⟨p, us, rfl, t, rr⟩ := lsOf_rep m r e
        obtain ⟨v, vr, rfl, rv, rfl⟩ := rs
        cases rv
        rw [asBls_e q] at rr
        rw [rr.bls] at t
        rw [List.idxOf?_eq_some_iff] at qj
        obtain ⟨hl, h1, h2⟩ := qj
        have h1 : bs[j] = kk := by simpa using h1
        refine ⟨p, _, _, j, .bl kk, rfl, rfl, t.sq, rfl, by simp [flatV], by simp [hl, h1], by simp [eqV], fun i z hi hz => ?_, k (.int _) H (.int _) S F rfl m (Fm.refl S F H) h⟩
        rw [List.getElem?_map] at hz
        cases qz : bs[i]? with
        | none => rw [qz] at hz; cases hz
        | some bz =>
          rw [qz] at hz
          cases hz
          obtain ⟨il, e2⟩ := List.getElem?_eq_some_iff.mp qz
          have h3 := h2 i hi
          rw [e2] at h3
          simp only [eqV]
          simpa using h3
      · exact h.elim
    · exact h.elim
  · exact h.elim
end DL
/-! ## DL28 -/
namespace DL
open PySem PySem.Spec PyProof.Rows L2
/-! ### str(x) of an int or a text -/
def dStrX (ds : List D) (S : Store) (Q : DK) : Prop := match ds with
  | [.int i] => i.natAbs.log2 < 1920 ∧ Q (.str (toString i)) S
  | [.str a] => Q (.str a) S
  | _ => False
theorem lc_strX {K : PySem.W.Frag} : LCA K (fun xs H Q => (∃ i, xs = [.int i] ∧ i.natAbs.log2 < 1920 ∧ Q (.str (toString i)) H) ∨ ∃ a, xs = [.str a] ∧ Q (.str a) H) dStrX := by
  intro vs H ds S F QD Q r m h k
  unfold dStrX at h
  split at h
  · exact .inl (lc_str vs H _ S F QD Q r m h k)
  · rename_i a
    obtain ⟨v, vr, rfl, r1, rfl⟩ := r
    cases r1
    exact .inr ⟨a, rfl, k (.str _) H (.str _) S F rfl m (Fm.refl S F H) h⟩
  · exact h.elim
theorem lsOf_sup {S : Store} {d : D} {xs : List D} {p : Addr} {o : MO} (h : lsOf S d = some xs) (hp : S p = none) : lsOf (sup S p o) d = some xs := by
  rcases lsOf_cases h with rfl | ⟨a, rfl, e⟩
  · rfl
  · exact lsOf_ref (by rw [sup_ne (sne e hp)]; exact e)
theorem withL_of {S : Store} {d : D} {xs : List D} {P : List D → Prop} (h : lsOf S d = some xs) (q : P xs) : withL d S P := by
  unfold withL
  rw [h]
  exact q
end DL
/-! ## DL29 -/
namespace DL
open PySem PySem.Spec PyProof.Rows L2
/-! ### ways that meet again -/
theorem nx_join {w u : DS} {D : DEnds} {σ : DSt} {S : Store} (R : DSt → Store → Prop) (h1 : ∀ σ S, R σ S → Nx u D σ S)
    (h2 : ∀ NX : DSt → Store → Prop, (∀ σ S, R σ S → NX σ S) → w { nx := NX, rt := D.rt, ex := D.ex, bk := D.bk, ct := D.ct } σ S) : w { nx := Nx u D, rt := D.rt, ex := D.ex, bk := D.bk, ct := D.ct } σ S := h2 _ h1
theorem le_upd {S S1 : Store} {p : Addr} {o : MO} (a : Le S S1) (h : S p = none) : Le S (sup S1 p o) := fun c u e => by
  rw [sup_ne (sne e h)]
  exact a c u e
theorem le_put {S S1 : Store} {p : Addr} {o : MO} (a : Le S S1) (h : S p = none) (e : S1 p = some o) : Le (sup S p o) S1 := fun c u q => by
  by_cases hc : c = p
  · subst hc
    rw [sup_same] at q
    rw [e, q]
  · rw [sup_ne hc] at q
    exact a c u q
/-! ### lists of lists of ints -/
def tkD (ts : List Int) : D := .tup (ts.map D.int)
theorem atI_map {α : Type} {xs : List α} {f : α → D} {i : Int} (h0 : 0 ≤ i) (h1 : i < xs.length) : atI (xs.map f) i = some (f (xs[i.toNat]'(by omega))) := by
  rw [atI_lt h0 (by simpa using h1)]
  simp
theorem ixN_map {α : Type} {xs : List α} {f : α → D} {i : Int} (h0 : 0 ≤ i) (h1 : i < xs.length) : ixN (xs.map f).length i = some i.toNat := ixN_lt h0 (by simpa using h1)
theorem setM {α : Type} {xs : List α} {f : α → D} {i : Nat} {x : α} : (xs.map f).set i (f x) = (xs.set i x).map f := (List.map_set).symm
theorem cut_upto {α : Type} {f : α → D} {xs : List α} {i : Int} (h0 : 0 ≤ i) (h1 : i ≤ xs.length) : cutD (xs.map f) none (some i) = (xs.take i.toNat).map f := by
  rw [cutD_to h0 (by simpa using h1), List.map_take]
theorem cut_at {α : Type} {f : α → D} {xs : List α} {i : Int} (h0 : 0 ≤ i) (h1 : i ≤ xs.length) : cutD (xs.map f) (some i) none = (xs.drop i.toNat).map f := by
  rw [cutD_from h0 (by simpa using h1), List.map_drop]
theorem set_split {α : Type} {xs : List α} {i : Nat} (h : i < xs.length) (x : α) : xs.take i ++ [x] ++ xs.drop (i + 1) = xs.set i x := by
  rw [List.set_eq_take_append_cons_drop, if_pos h, List.append_assoc]
  rfl
theorem lg9 {i : Int} (h0 : -(2 ^ 63) ≤ i) (h1 : i ≤ 2 ^ 63) : i.natAbs.log2 < 9000 := by
  by_cases h : i.natAbs = 0
  · rw [h]; decide
  have := (Nat.log2_lt h (k := 64)).mpr (by omega)
  omega
theorem seqIndex_lt {n : Nat} {k : Int} (h0 : 0 ≤ k) (h1 : k < n) : seqIndex? k n = some k.toNat := by
  have h : ¬ k < 0 := by omega
  simp [seqIndex?, h, h0, h1]
theorem erase_map {α β : Type} {f : α → β} : ∀ {l : List α} {i : Nat}, (l.map f).eraseIdx i = (l.eraseIdx i).map f
  | [], _ => rfl
  | a :: l, 0 => rfl
  | a :: l, i + 1 => congrArg (f a :: ·) (erase_map (l := l) (i := i))
theorem erase_perm {α : Type} : ∀ {l : List α} {i : Nat} (h : i < l.length), (l[i] :: l.eraseIdx i).Perm l
  | a :: l, 0, _ => .refl _
  | a :: l, i + 1, h => by
    have hi : i < l.length := by simpa using h
    have := erase_perm (l := l) (i := i) hi
    exact (List.Perm.swap a l[i] (l.eraseIdx i)).trans (this.cons a)
theorem cpow18 : CPow 10 18 := ⟨by decide, by decide, by decide⟩
end DL
/-! ## DL30 -/
namespace DL
open PySem PySem.Spec PyProof.Rows L2
/-! ### own errors with fields: raise C(..), C's __init__ calls its base's and keeps what it is handed -/
/-- B.__init__(self, ..), B an own class that has ValueError's -/
theorem pe_binit {X : Cx} {x : Str} {B : Addr} {e : Expr} {es : List Expr} {ta : TA} {p1 p2 pos : Pos} {pl : Sem Bool} (hg : Gl X x) (hm : X.mg x = some (.ref B)) (cr : ClX.CRead X.K B (.type "type"))
    (cv : PySem.W.findCls X.K (.ref B) (.type "type") "__init__" = some (.val (.builtin "ValueError.__init__"))) (ha : PA X (e :: es) ta)
    (hc : eval (.Call (.Attribute (.Name x p1) "__init__" p2) (e :: es) [] pos) X.env = (do
      let ov ← eval (.Name x p1) X.env
      standAt p2.atName
      let (f, first) ← holding [ov] (getMethod ov "__init__" pl)
      callWith pos f first (backTo pos (starEach (e :: es) X.env)) (backToKw pos (keywordEach [] X.env))) := by rfl)
    (he : starEach (e :: es) X.env = (false, eval e X.env) :: starEach es X.env := by rfl) (hpl : (backTo pos (starEach es X.env)).any (·.1) = false := by rfl) (hdb : (x == ("__debug__" : Str)) = false := by decide) :
    PE X (.Call (.Attribute (.Name x p1) "__init__" p2) (e :: es) [] pos) (tVeI X.K ta) := ⟨fun pins s σ H Q I h => by
  refine PySem.W.methodCall_KW (ld_glob I hg hm ?_ hdb) hc
  refine PySem.W.method_cls I.kIn cr.ga (PySem.W.cls_value I.kIn cr.rd cv (by decide +kernel) ?_)
  refine PyProof.Rows.callWith_method1 (thn (ha.run pos pins _ σ H _ (I.tok _) h) fun us s1 hh => ?_) he hpl
  obtain ⟨vs, H1, J, r, a, C, ws, rfl, hl, T, ea, q⟩ := hh
  cases r with
  | cons ra rw' =>
    cases ra
    exact oinit_ok T J ea (by rw [← Paired.length rw', sizeLine_eq]; omega) fun s' J2 => ⟨V.non, _, J2, rfl, q⟩⟩
/-- what such an __init__ does -/
def exSp (K : PySem.W.Frag) (fs : List Str) : Sp := fun vs H Q _ => ∃ (a C : Addr) (ys : List V), vs = .ref a :: ys ∧ ys.length = fs.length ∧ OexC K C ∧ (∀ f ∈ fs, PySem.W.findIn K (.ref C) f = some none) ∧ H a = some (exo a C none) ∧
  ∀ dx, H dx = none → dx ≠ a → Q .non (upd (upd H dx (exd dx (fs.zip ys).reverse)) a (exo a C (some dx)))
section
variable {P : Program} {w : World} {K : PySem.W.Frag} {mg : Str → Option Value} {base : Heap}
/-- what the text says of such an __init__ -/
structure InitF (K : PySem.W.Frag) (mg : Str → Option Value) (B : Str) : Prop where
  ex : ∃ b, mg B = some (.ref b) ∧ ClX.CRead K b (.type "type") ∧ PySem.W.findCls K (.ref b) (.type "type") "__init__" = some (.val (.builtin "ValueError.__init__"))
theorem init1 {f m q : Str} {st : Stmt} {fI : Addr} {fd : FuncData} (k : Nat) (G : Fun K "__init__" q st fI fd) (Sc : FnScope ["self", f] ["self", f] (defScope st))
    (hb : ∀ (cdv : Value) (A : Around) (outer : List Env) (s : Shared) (H : Hp) (E : XK), PSs (cxOf (L2.CX P w) P w K mg base ["self", f] q (defScope st) fI cdv A outer s H E) (defBody st) (tSeq (tDrop (tVeI K (tCons (tVar 0) (tCons (tC (.str m)) tNil)))) (tOst K f (tVar 0) (tVar 1)))) :
    FnOk P w K mg base (L2.CX P w) (k + 1) fI fd ["self", f] (exSp K [f]) := by
  refine G.okX Sc (fun vs H Q E ⟨a, C, ys, ev, hl, _⟩ => by rw [ev]; simpa using hl) fun cdv A outer s H vs Q E hr hsp => ⟨_, hb cdv A outer s H E, ?_⟩
  obtain ⟨a, C, ys, rfl, hl, T, na, ha, hq⟩ := hsp
  obtain ⟨y, rfl⟩ : ∃ y, ys = [y] := by
    match ys, hl with
    | [y], _ => exact ⟨y, rfl⟩
  refine ⟨.ref a, rfl, a, C, [.str m], rfl, by show 1 ≤ 1000; decide, T, ha, y, rfl, .ref a, rfl, a, C, rfl, T, na f (by simp), .inl ⟨ha, fun dx h1 h2 => ?_⟩⟩
  exact hq dx h1 h2
theorem init2 {f g m q : Str} {st : Stmt} {fI : Addr} {fd : FuncData} (k : Nat) (G : Fun K "__init__" q st fI fd) (Sc : FnScope ["self", f, g] ["self", f, g] (defScope st))
    (hb : ∀ (cdv : Value) (A : Around) (outer : List Env) (s : Shared) (H : Hp) (E : XK), PSs (cxOf (L2.CX P w) P w K mg base ["self", f, g] q (defScope st) fI cdv A outer s H E) (defBody st) (tSeq (tDrop (tVeI K (tCons (tVar 0) (tCons (tC (.str m)) tNil)))) (tSeq (tOst K f (tVar 0) (tVar 1)) (tOst K g (tVar 0) (tVar 2))))) :
    FnOk P w K mg base (L2.CX P w) (k + 1) fI fd ["self", f, g] (exSp K [f, g]) := by
  refine G.okX Sc (fun vs H Q E ⟨a, C, ys, ev, hl, _⟩ => by rw [ev]; simpa using hl) fun cdv A outer s H vs Q E hr hsp => ⟨_, hb cdv A outer s H E, ?_⟩
  obtain ⟨a, C, ys, rfl, hl, T, na, ha, hq⟩ := hsp
  obtain ⟨y, z, rfl⟩ : ∃ y z, ys = [y, z] := by
    match ys, hl with
    | [y, z], _ => exact ⟨y, z, rfl⟩
  refine ⟨.ref a, rfl, a, C, [.str m], rfl, by show 1 ≤ 1000; decide, T, ha, y, rfl, .ref a, rfl, a, C, rfl, T, na f (by simp), .inl ⟨ha, fun dx h1 h2 => ?_⟩⟩
  refine ⟨z, rfl, .ref a, rfl, a, C, rfl, T, na g (by simp), .inr ⟨dx, [(f, y)], upd_same, by rw [upd_ne h2, upd_same], by show 1 ≤ 900; decide, ?_⟩⟩
  have e : upd (upd (upd H dx (exd dx [(f, y)])) a (exo a C (some dx))) dx (exd dx [(g, z), (f, y)]) = upd (upd H dx (exd dx [(g, z), (f, y)])) a (exo a C (some dx)) := by
    funext c
    by_cases c1 : c = dx
    · subst c1; rw [upd_same, upd_ne h2, upd_same]
    · rw [upd_ne c1]
      by_cases c2 : c = a
      · subst c2; rw [upd_same, upd_same]
      · rw [upd_ne c2, upd_ne c2, upd_ne c1, upd_ne c1]
  show Q .non (upd (upd (upd H dx (exd dx [(f, y)])) a (exo a C (some dx))) dx (exd dx [(g, z), (f, y)]))
  rw [e]
  exact hq dx h1 h2
end
structure ExMk (P : Program) (w : World) (K : PySem.W.Frag) (mg : Str → Option Value) (base : Heap) (x : Str) (k : Nat) (fs : List Str) : Prop where
  ex : ∃ C fI fd, mg x = some (.ref C) ∧ OexC K C ∧ PySem.W.findIn K (.ref C) "__init__" = some (some (.ref fI)) ∧ PySem.W.typeIn K (.ref fI) = some (.type "function") ∧ (∀ f ∈ fs, PySem.W.findIn K (.ref C) f = some none) ∧
    FnOk P w K mg base (L2.CX P w) k fI fd ("self" :: fs) (exSp K fs) ∧ Binds K fd ("self" :: fs) []
structure DefX (K : PySem.W.Frag) (mg : Str → Option Value) (x q : Str) (fs : List Str) (st : Stmt) : Prop where
  ex : ∃ C fI fd, mg x = some (.ref C) ∧ OexC K C ∧ PySem.W.findIn K (.ref C) "__init__" = some (some (.ref fI)) ∧ PySem.W.typeIn K (.ref fI) = some (.type "function") ∧ (∀ f ∈ fs, PySem.W.findIn K (.ref C) f = some none) ∧
    Fun K "__init__" q st fI fd ∧ Binds K fd ("self" :: fs) []
def wRzI (c : Str) (fs : List Str) (ws : DA) : DS := fun D σ S => ws σ S (fun ds S1 => ds.length = fs.length ∧ ∀ dd, S1 dd = none → D.ex ⟨c, some dd⟩ σ (sup S1 dd (.xdo (fs.zip ds).reverse))) (fun e S' => D.ex e σ S')
section
variable {X : Cx} {W : WX} {c : Str} {fs : List Str} {e : Expr} {es : List Expr} {ws : DA} {p p3 pos : Pos} {k j : Nat}
theorem fld_reps {K : PySem.W.Frag} {H : Hp} : ∀ {fs : List Str} {ds : List D} {vs : List V} {fa : List (Str × D)} {fv : List (Str × V)}, Reps K H ds vs → RepF K H fa fv → RepF K H ((fs.zip ds).reverse ++ fa) ((fs.zip vs).reverse ++ fv)
  | [], _, _, _, _, _, a => by simpa using a
  | f :: fs, [], vs, _, _, r, a => by cases r; simpa using a
  | f :: fs, d :: ds, _, fa, fv, ⟨v, vr, e, r1, r2⟩, a => by
    subst e
    have := fld_reps (fs := fs) r2 (fa := (f, d) :: fa) (fv := (f, v) :: fv) (.cons ⟨rfl, r1⟩ a)
    simpa using this
theorem dps_rzI (M : ExMk X.prog X.w X.K X.mg X.base c k fs) (hr : Room j X.A) (hkj : k + 1 ≤ j) (hc : X.calm = true) (tk : Takes X W) (hg : Gl X c) (ha : PAd X W (e :: es) ws) (hfl : fs.length ≤ 1000 := by show _ ≤ 1000; decide) (hdb : (c == ("__debug__" : Str)) = false := by decide)
    (he : starEach (e :: es) X.env = (false, eval e X.env) :: starEach es X.env := by rfl) (hpl : (backTo p3 (starEach es X.env)).any (·.1) = false := by rfl) :
    PSd X W (.Raise (some (.Call (.Name c p) (e :: es) [] p3)) none pos) (wRzI c fs ws) := by
  obtain ⟨C, fI, fd, h1, T, h2, h3, na, F1, hb⟩ := M.ex
  refine PS.imp (ps_raise hc tk (pmk_oex (dvs := []) T h2 h3 F1 (hr.mono hkj) hb .nil (passes_call tk fun _ _ _ _ z => z.elim) hg h1 ha hdb he hpl)) fun DD σ H ⟨σD, S, F, QD, sl, m, h, kq⟩ => ?_
  refine ⟨σD, S, F, _, _, sl, m, h, fun vs H1 ds S1 F1' r1 m1 f1 hh => ?_, kq.ex.ex m sl⟩
  obtain ⟨l1, h⟩ := hh
  refine ⟨by rw [← r1.length, l1]; exact hfl, fun a ha => ⟨a, C, vs, by rw [List.append_nil], by rw [← r1.length, l1], T, na, upd_same, fun dx h1 h2 => ⟨rfl, dx, _, upd_same, by rw [upd_ne h2, upd_same], by rwa [upd_ne h2] at h1, ?_⟩⟩⟩
  have hd : H1 dx = none := by rwa [upd_ne h2] at h1
  have e : upd (del (upd (upd (upd H1 a (exo a C none)) dx (exd dx (fs.zip vs).reverse)) a (exo a C (some dx))) a) dx (.xd (fs.zip vs).reverse) = upd H1 dx (.xd (fs.zip vs).reverse) := by
    funext b
    by_cases c1 : b = dx
    · subst c1; rw [upd_same, upd_same]
    · rw [upd_ne c1, upd_ne c1]
      by_cases c2 : b = a
      · subst c2; rw [del_same, ha]
      · rw [del_ne c2, upd_ne c2, upd_ne c1, upd_ne c2]
  rw [e]
  obtain ⟨sd, fd'⟩ := m1.fresh hd
  have m2 := m1.laid (o := .xd (fs.zip vs).reverse) hd
  have rv := Reps.kp (kp_new (o := .xd (fs.zip vs).reverse) hd) _ _ r1
  have rf := fld_reps (fs := fs) rv (fa := []) (fv := []) .nil
  rw [List.append_nil, List.append_nil] at rf
  have m3 := m2.adopt (u := .xdo (fs.zip ds).reverse) sd fd' ⟨_, upd_same, rf⟩
  have f2 : Fm S F H (sup S1 dx (.xdo (fs.zip ds).reverse)) F1' (upd H1 dx (.xd (fs.zip vs).reverse)) := (f1.trans (Fm.laid hd)).adopt (Nw.back f1 (.inr (.inr hd)))
  exact kq.ex _ _ σ _ ⟨c, some dx⟩ σD _ F1' ⟨by assumption, rfl⟩ (sl.kp (f2.kp m)) m3 f2 (h dx sd)
end
theorem cut_drop {xs : List D} {k : Int} (h : 0 ≤ k) : cutD xs (some k) none = xs.drop k.toNat := by
  by_cases hk : k ≤ xs.length
  · exact cutD_from h hk
  · obtain ⟨n, rfl⟩ := Int.eq_ofNat_of_zero_le h
    unfold cutD
    rw [HT.sIx_nat, HT.sIx_none, List.drop_eq_nil_of_le (by omega), List.drop_eq_nil_of_le (show xs.length ≤ (n : Int).toNat by omega), List.take_nil]
theorem sum_set {α : Type} (f : α → Nat) : ∀ {l : List α} {i : Nat} (h : i < l.length) (a : α), ((l.set i a).map f).sum + f l[i] = (l.map f).sum + f a
  | x :: l, 0, _, a => by simp; omega
  | x :: l, i + 1, h, a => by
    have := sum_set f (l := l) (i := i) (by simpa using h) a
    simp at this ⊢
    omega
theorem sum_take {α : Type} (f : α → Nat) : ∀ (l : List α) (i : Nat), ((l.take i).map f).sum ≤ (l.map f).sum
  | [], _ => by simp
  | x :: l, 0 => by simp
  | x :: l, i + 1 => by
    have := sum_take f l i
    simp at this ⊢
    omega
theorem sum_drop {α : Type} (f : α → Nat) : ∀ (l : List α) (i : Nat), ((l.drop i).map f).sum ≤ (l.map f).sum
  | [], _ => by simp
  | x :: l, 0 => by simp
  | x :: l, i + 1 => by
    have := sum_drop f l i
    simp at this ⊢
    omega
theorem sum_cut {α : Type} (f : α → Nat) (l : List α) (i : Nat) : ((l.take i).map f).sum + ((l.drop i).map f).sum = (l.map f).sum := by
  rw [← List.sum_append, ← List.map_append, List.take_append_drop]
theorem sum_at {α : Type} (f : α → Nat) {l : List α} {i : Nat} (h : i < l.length) : f l[i] ≤ (l.map f).sum := by
  have e := sum_cut f l i
  rw [List.drop_eq_getElem_cons h, List.map_cons, List.sum_cons] at e
  omega
theorem cdiv2 {i : Int} : CDivW i 2 := ⟨by decide, by decide⟩
theorem part_all {S : Store} : Part S S := ⟨fun _ _ e => e, fun _ e => e, fun _ _ _ _ e z => by rw [e] at z; cases z⟩
/-- a lambda handed to _law_told: what it tells, or its error's word -/
theorem seal_told {P : Program} {w : World} {K : PySem.W.Frag} {mg : Str → Option Value} {base : Heap} {k : Nat} {errs : List Str} {cells : List (Str × Addr)} {vals : List (Str × D)} {S : Store} {L : LF} {wb : DE} {Q : DK} (n0 : NoSS S) (nv : ∀ q ∈ vals, noS q.2 = true) (lb : LamB P w K mg base k L vals wb)
    (h : wb (vals.map fun q => some q.2) S (fun d S' => noS d = true ∧ NoSS S' ∧ Q d S') (fun e S' => catE errs e.name = some true ∧ ∃ d, toldD e S' = some d ∧ noS d = true ∧ NoSS S' ∧ Q d S')) :
    ∃ S0, (∀ a o, S0 a = some o → S a = some o) ∧ sp_told P w K mg base k errs [sealD cells vals (.fn L cells)] (sealS cells vals S0) (fun d S' => noS d = true ∧ ∃ S2, (∀ a o, S2 a = some o → S' a = some o) ∧ NoSS S2 ∧ Q d S2) XF := by
  refine ⟨S, fun _ _ e => e, ?_⟩
  rw [sealS_id n0, show sealD cells vals (.fn L cells) = .fnS L cells vals from if_pos rfl]
  refine ⟨S, wb, _, _, lb, part_all, n0, nv, h, fun d S' z => ?_, fun e S' z => ?_⟩
  · rw [joinS_self]
    exact ⟨z.1, S', fun _ _ e => e, z.2.1, z.2.2⟩
  · obtain ⟨z1, d, z2, z3, z4, z5⟩ := z
    rw [joinS_self]
    exact ⟨z1, d, z2, z3, S', fun _ _ e => e, z4, z5⟩
theorem lg19 {i : Int} (h0 : -(2 ^ 63) ≤ i) (h1 : i ≤ 2 ^ 63) : i.natAbs.log2 < 1920 := by
  by_cases h : i.natAbs = 0
  · rw [h]; decide
  have := (Nat.log2_lt h (k := 64)).mpr (by omega)
  omega
theorem seal_toldR {P : Program} {w : World} {K : PySem.W.Frag} {mg : Str → Option Value} {base : Heap} {k : Nat} {errs : List Str} {cells : List (Str × Addr)} {vals : List (Str × D)} {S : Store} {L : LF} {wb : DE} {Q : DK} (R : D → Store → Prop) (n0 : NoSS S) (nv : ∀ q ∈ vals, noS q.2 = true) (lb : LamB P w K mg base k L vals wb)
    (h : wb (vals.map fun q => some q.2) S (fun d S' => noS d = true ∧ NoSS S' ∧ R d S') (fun e S' => catE errs e.name = some true ∧ ∃ d, toldD e S' = some d ∧ noS d = true ∧ NoSS S' ∧ R d S')) (q : ∀ d S', NoSS S' → R d S' → Q d S') :
    ∃ S0, (∀ a o, S0 a = some o → S a = some o) ∧ sp_told P w K mg base k errs [sealD cells vals (.fn L cells)] (sealS cells vals S0) (fun d S' => noS d = true ∧ ∃ S2, (∀ a o, S2 a = some o → S' a = some o) ∧ NoSS S2 ∧ Q d S2) XF := by
  obtain ⟨S0, h1, h2⟩ := seal_told (Q := R) n0 nv lb h
  refine ⟨S0, h1, told_mono h2 fun d S' z => ?_⟩
  obtain ⟨z1, S2, z2, z3, z4⟩ := z
  exact ⟨z1, S2, z2, z3, q d S2 z3 z4⟩
/-! ### methods by their places -/
structure DefMd (K : PySem.W.Frag) (C : Addr) (m q : Str) (st : Stmt) (ps : List Str) (n : Nat) (ks : List Str) (pl : List (Option Nat)) (dD : List D) : Prop where
  ex : ∃ f fd, Fun K m q st f fd ∧ Meth K C m f ∧ KB K fd ps n ks pl dD
structure DefMi (K : PySem.W.Frag) (mg : Str → Option Value) (x : Str) (C : Addr) (q : Str) (st : Stmt) (ps : List Str) (n : Nat) (ks : List Str) (pl : List (Option Nat)) (dD : List D) : Prop where
  ex : ∃ f fd, Fun K "__init__" q st f fd ∧ Mk K C f ∧ mg x = some (.ref C) ∧ KB K fd ps n ks pl dD
theorem DefMd.cal {P : Program} {w : World} {K : PySem.W.Frag} {mg : Str → Option Value} {base : Heap} {C : Addr} {m q : Str} {st : Stmt} {ps : List Str} {n k : Nat} {ks : List Str} {pl : List (Option Nat)} {dD : List D} {sp : SpD} (G : DefMd K C m q st ps n ks pl dD)
    (h : ∀ f fd, Fun K m q st f fd → FnD P w K mg base k f fd ps sp) : CalM P w K mg base C m k ps sp n ks pl dD := by
  obtain ⟨f, fd, g1, g2, g3⟩ := G.ex
  exact ⟨f, fd, h f fd g1, g2, g3⟩
theorem DefMi.made {P : Program} {w : World} {K : PySem.W.Frag} {mg : Str → Option Value} {base : Heap} {C : Addr} {x q : Str} {st : Stmt} {ps : List Str} {n k : Nat} {ks : List Str} {pl : List (Option Nat)} {dD : List D} {sp : SpD} (G : DefMi K mg x C q st ps n ks pl dD)
    (h : ∀ f fd, Fun K "__init__" q st f fd → FnD P w K mg base k f fd ps sp) : CalC P w K mg base x C k ps sp n ks pl dD := by
  obtain ⟨f, fd, g1, g2, g3, g4⟩ := G.ex
  exact ⟨f, fd, h f fd g1, g2, g3, g4⟩
end DL
/-! ## K15 -/
namespace K15
open PySem PySem.Spec PyProof.Rows L2 DL
def top (i : Nat) : Stmt := PySem.Challenge.pw_causalports_k15_texts_refused.main.body.getD i (.Pass ⟨0, 0, 0, 0⟩)
def sub (i j : Nat) : Stmt := match top i with | .ClassDef _ _ _ body _ _ _ _ _ _ _ => body.getD j (.Pass ⟨0, 0, 0, 0⟩) | s => s
abbrev s_NotYet___init__ : Stmt := sub 10 0
abbrev s_Stale___init__ : Stmt := sub 11 0
abbrev s_BadLogs___init__ : Stmt := sub 12 0
abbrev s_BadText___init__ : Stmt := sub 13 0
abbrev s_is_number : Stmt := top 18
abbrev s_is_token : Stmt := top 19
abbrev s_need_token : Stmt := top 20
abbrev s_sized : Stmt := top 25
abbrev s_number_of : Stmt := top 26
abbrev s_numbers_of : Stmt := top 27
abbrev s_read : Stmt := top 28
abbrev s_read_log : Stmt := top 29
abbrev s__law_begun : Stmt := top 31
abbrev s__law_take : Stmt := top 32
abbrev s__law_alike : Stmt := top 33
abbrev s__law_told : Stmt := top 34
abbrev s__law_spoilt : Stmt := top 35
abbrev s__law_numbers : Stmt := top 36
abbrev s__law_token : Stmt := top 37
abbrev s__law_log : Stmt := top 38
abbrev s_law : Stmt := top 39
structure Txt (K : PySem.W.Frag) (mg : Str → Option Value) : Prop where
  b_all : mg "all" = none
  b_any : mg "any" = none
  b_bool : mg "bool" = none
  b_enumerate : mg "enumerate" = none
  b_int : mg "int" = none
  b_isinstance : mg "isinstance" = none
  b_len : mg "len" = none
  b_list : mg "list" = none
  b_max : mg "max" = none
  b_min : mg "min" = none
  b_range : mg "range" = none
  b_str : mg "str" = none
  b_tuple : mg "tuple" = none
  c_FIGURES : Cst K mg "FIGURES" (.str "0123456789")
  c_LEAST_SITES : Cst K mg "LEAST_SITES" (.int 2)
  c_LINE : Cst K mg "LINE" (.str "\n")
  c_MOST_PUTS : Cst K mg "MOST_PUTS" (.int 999)
  c_MOST_SITES : Cst K mg "MOST_SITES" (.int 5)
  c_PUT : Cst K mg "PUT" (.str "put")
  e_BadToken : Exn K mg "BadToken"
section
variable {P : Program} {w : World} {K : PySem.W.Frag} {mg : Str → Option Value} {base : Heap}
theorem sc__law_take : FnScope ["_law_box", "_law_many", "_law_number"] ["_law_box", "_law_many"] (defScope s__law_take) := ⟨rfl, rfl, rfl, by decide +kernel, rfl, by decide +kernel, by decide +kernel⟩
theorem okO_take (G : Def K mg "_law_take" s__law_take ["_law_box", "_law_many"]) (T : Txt K mg) : Cal P w K mg base "_law_take" 1 ["_law_box", "_law_many"] sp_takeO := by
  refine G.cal sc__law_take (fun ds S Q E h => ?_) fun f cdv A outer s H E hr => ⟨_, (dpss_cons (dps_if (dpt_cmp (op_eqA (hr.units)) lr_eqA (dpe_ixX (dv 0) dpe_int (fun _ _ => rfl)) (dpe_fz (dpl_lst dpa_nil)) (nomark _)) (dpss_cons (dps_asg (dpe_op op_mod lr_intC (dpe_op op_mulT lr_mulX (dpe_ixX (dv 0) dpe_int (fun _ _ => rfl)) dpe_int) dpe_int) (dpg_sub (vv := []) (dv 0) dpe_int))
    (dpss_one (dps_ret (dpe_op op_mod lr_intC (dpe_op op_fdivW lr_intC (dpe_ixX (dv 0) dpe_int (fun _ _ => rfl)) dpe_int) (dv 1))))) dpss_nil)
    (dpss_cons (dps_set (i := 2) sc__law_take.nd rfl (by first | exact Or.inl rfl | exact Or.inr rfl) (dpe_ixX (dpe_ixX (dv 0) dpe_int (fun _ _ => rfl)) dpe_int (fun _ _ => rfl)))
    (dpss_cons (dps_asg (dpe_op op_fdivW lr_intC (dv 2) (dv 1)) (dpg_sub (vv := []) (dpe_ixX (dv 0) dpe_int (fun _ _ => rfl)) dpe_int))
    (dpss_cons (dps_if (dpw_pt (dpw_or (dpt_cmp (op_eqA (hr.units)) lr_eqA (dpe_ixX (dpe_ixX (dv 0) dpe_int (fun _ _ => rfl)) dpe_int (fun _ _ => rfl)) dpe_int (nomark _)) (dpw_or1 (dpt_cmp (op_eqA (hr.units)) lr_eqA (dpe_ixX (dpe_ixX (dv 0) dpe_int (fun _ _ => rfl)) dpe_int (fun _ _ => rfl)) (dpe_un un_neg lr_neg dpe_int) (nomark _))))) (dpss_one (dps_expr (dpe_bm PySem.F.plainAttrs_list PySem.F.slot_list_pop PySem.F.type_list_pop mt_popAt lm_popAt ty_list (dpe_ixX (dv 0) dpe_int (fun _ _ => rfl)) (dpa_cons dpe_int dpa_nil)))) dpss_nil)
    (dpss_one (dps_ret (dpe_op op_mod lr_intC (dv 2) (dv 1)))))))), ?_⟩
  · unfold sp_takeO at h; split at h <;> first | rfl | exact h.elim
  · intro ds S Q ED h
    unfold sp_takeO at h
    split at h
    · rename_i b many
      obtain ⟨l, z, ns, e1, e2, ne, z0, z1, hl, m0, ml, h⟩ := h
      simp only [↓DL.wSeq, ↓DL.wSlT, ↓DL.wNo, ↓DL.wPart, ↓DL.dSlT, ↓DL.dCat, ↓DL.dListT, ↓DL.wFor, ↓DL.iR1, ↓DL.iR2, ↓DL.iTp, ↓DL.iLs, ↓DL.iNw, ↓DL.iLn, ↓DL.wNext, ↓DL.wIf, ↓DL.wRet, ↓DL.wRetN, ↓DL.wDrop, ↓DL.wAsg, ↓DL.gNm, ↓DL.wPar, ↓DL.wVar, ↓DL.wC, ↓DL.wOp, ↓DL.wUn, ↓DL.wTst, ↓DL.wChain, ↓DL.wAnd, ↓DL.wOr, ↓DL.wNot, ↓DL.wAndV, ↓DL.wOrV, ↓DL.wNotV, ↓DL.wIfE, ↓DL.wNil, ↓DL.wCons, ↓DL.wTup, ↓DL.wLst, ↓DL.wNew, ↓DL.wDer, ↓DL.wVL, ↓DL.wVLL, ↓DL.wALL, ↓DL.wCall, ↓DL.wIsa, ↓DL.wRaise, ↓DL.isB, ↓DL.dI0, ↓DL.dI, ↓DL.dU, ↓DL.dLen, ↓DL.dIx, ↓DL.gSubD, ↓DL.setD, ↓DL.wBM, ↓DL.isL, ↓DL.onL, ↓DL.dPopAt, ↓DL.dAppend, ↓DL.wIxV, ↓DL.wEqVL, ↓DL.wEqL, ↓DL.dEqS, ↓DL.dNeS, ↓DL.startD, List.map_cons, List.map_nil, List.length_cons, List.length_nil, List.cons_append, List.nil_append, List.replicate_succ, List.replicate_zero, List.getElem?_cons_zero, List.getElem?_cons_succ, List.set_cons_zero, List.set_cons_succ, Nat.reduceAdd, Nat.reduceSub, Nat.sub_self, ↓DL.kindD, ↓DL.dIsN, ↓DL.dNotN, ↓DL.isaB, String.reduceBEq, Bool.or_false, Bool.false_or, Bool.true_or, Bool.or_true, Bool.and_true, Bool.and_false, Bool.true_and, Bool.false_and, decide_true, decide_false, ↓DL.isNon, if_true, if_false, Bool.not_true, Bool.not_false, Bool.false_eq_true, reduceIte, true_and, and_true, ↓DL.dAddX, ↓DL.dMulX, ↓DL.dIxX, ↓DL.wSlX, ↓DL.dSlX, ↓DL.wSlL2, ↓DL.withL_rl, ↓DL.lsOf, ↓DL.wDerL, ↓DL.wFz, ↓DL.wFzR, ↓DL.frzD, ↓DL.wSide, ↓DL.wCatX, ↓DL.dEqA, ↓DL.scalEq, ↓DL.eqB, ↓DL.iLq, ↓DL.iSg, ↓DL.iEn, ↓DL.wM1, ↓DL.isStr, ↓DL.dJoin, ↓DL.dStrip, ↓DL.wSplit, ↓DL.dIntX, ↓DL.dInF, ↓DL.dInS, ↓DL.seqOf, ↓DL.wPar3, ↓DL.wFld, ↓DL.fldD, ↓DL.wSetF, ↓DL.setFD, ↓DL.wAugF, ↓DL.wMeth, ↓DL.recvD, ↓DL.wMake, ↓DL.fillP, ↓DL.wAsg2, ↓DL.gFldD, ↓DL.gStD, ↓DL.starV, ↓DL.gCs, ↓DL.gNl, ↓DL.gTp, Nat.add_zero, List.append_nil, List.zipWith_nil_left, List.zipWith_cons_cons, List.getD_cons_zero, ↓DL.wYes, reduceCtorEq, ↓DL.dEqX, ↓DL.dInD, DL.dataS_rl, DL.dataS_tup, DL.dataS_int, DL.dataS_str, DL.dataS_non, DL.dataD_nil, DL.dataD_ti, DL.dataD_li, ↓DL.isL2, ↓DL.dCountX, ↓DL.dIndexX, Option.isSome_some, ↓DL.dStrX, e1, atI0, atI1, ixN1, sup_sup]
      refine ⟨by decide, _, _, (dataS_ref e2).trans (by rw [dataDs_ints]; rfl), rfl, shaped_li _, shaped_li [], ?_⟩
      have em : ((PyData.list (ns.map .int)).eqv (.list [])) = decide (ns = []) := by
        simp only [PyData.eqv]
        exact eqvAll_ints ns []
      rw [em]
      cases ns with
      | nil =>
        simp only [↓DL.wSeq, ↓DL.wSlT, ↓DL.wNo, ↓DL.wPart, ↓DL.dSlT, ↓DL.dCat, ↓DL.dListT, ↓DL.wFor, ↓DL.iR1, ↓DL.iR2, ↓DL.iTp, ↓DL.iLs, ↓DL.iNw, ↓DL.iLn, ↓DL.wNext, ↓DL.wIf, ↓DL.wRet, ↓DL.wRetN, ↓DL.wDrop, ↓DL.wAsg, ↓DL.gNm, ↓DL.wPar, ↓DL.wVar, ↓DL.wC, ↓DL.wOp, ↓DL.wUn, ↓DL.wTst, ↓DL.wChain, ↓DL.wAnd, ↓DL.wOr, ↓DL.wNot, ↓DL.wAndV, ↓DL.wOrV, ↓DL.wNotV, ↓DL.wIfE, ↓DL.wNil, ↓DL.wCons, ↓DL.wTup, ↓DL.wLst, ↓DL.wNew, ↓DL.wDer, ↓DL.wVL, ↓DL.wVLL, ↓DL.wALL, ↓DL.wCall, ↓DL.wIsa, ↓DL.wRaise, ↓DL.isB, ↓DL.dI0, ↓DL.dI, ↓DL.dU, ↓DL.dLen, ↓DL.dIx, ↓DL.gSubD, ↓DL.setD, ↓DL.wBM, ↓DL.isL, ↓DL.onL, ↓DL.dPopAt, ↓DL.dAppend, ↓DL.wIxV, ↓DL.wEqVL, ↓DL.wEqL, ↓DL.dEqS, ↓DL.dNeS, ↓DL.startD, List.map_cons, List.map_nil, List.length_cons, List.length_nil, List.cons_append, List.nil_append, List.replicate_succ, List.replicate_zero, List.getElem?_cons_zero, List.getElem?_cons_succ, List.set_cons_zero, List.set_cons_succ, Nat.reduceAdd, Nat.reduceSub, Nat.sub_self, ↓DL.kindD, ↓DL.dIsN, ↓DL.dNotN, ↓DL.isaB, String.reduceBEq, Bool.or_false, Bool.false_or, Bool.true_or, Bool.or_true, Bool.and_true, Bool.and_false, Bool.true_and, Bool.false_and, decide_true, decide_false, ↓DL.isNon, if_true, if_false, Bool.not_true, Bool.not_false, Bool.false_eq_true, reduceIte, true_and, and_true, ↓DL.dAddX, ↓DL.dMulX, ↓DL.dIxX, ↓DL.wSlX, ↓DL.dSlX, ↓DL.wSlL2, ↓DL.withL_rl, ↓DL.lsOf, ↓DL.wDerL, ↓DL.wFz, ↓DL.wFzR, ↓DL.frzD, ↓DL.wSide, ↓DL.wCatX, ↓DL.dEqA, ↓DL.scalEq, ↓DL.eqB, ↓DL.iLq, ↓DL.iSg, ↓DL.iEn, ↓DL.wM1, ↓DL.isStr, ↓DL.dJoin, ↓DL.dStrip, ↓DL.wSplit, ↓DL.dIntX, ↓DL.dInF, ↓DL.dInS, ↓DL.seqOf, ↓DL.wPar3, ↓DL.wFld, ↓DL.fldD, ↓DL.wSetF, ↓DL.setFD, ↓DL.wAugF, ↓DL.wMeth, ↓DL.recvD, ↓DL.wMake, ↓DL.fillP, ↓DL.wAsg2, ↓DL.gFldD, ↓DL.gStD, ↓DL.starV, ↓DL.gCs, ↓DL.gNl, ↓DL.gTp, Nat.add_zero, List.append_nil, List.zipWith_nil_left, List.zipWith_cons_cons, List.getD_cons_zero, ↓DL.wYes, reduceCtorEq, ↓DL.dEqX, ↓DL.dInD, DL.dataS_rl, DL.dataS_tup, DL.dataS_int, DL.dataS_str, DL.dataS_non, DL.dataD_nil, DL.dataD_ti, DL.dataD_li, ↓DL.isL2, ↓DL.dCountX, ↓DL.dIndexX, Option.isSome_some, ↓DL.dStrX, sup_same, atI1, decide_true]
        refine ⟨.inr (by decide), by decide, ⟨by decide, by decide⟩, m0, ?_⟩
        have q := h (z * 48271 % 2147483647 / 7 % many) (z * 48271 % 2147483647) [] (Int.emod_nonneg _ (by omega)) (Int.emod_lt_of_pos _ m0) (by omega) (by omega) (by decide)
        rw [List.map_nil] at q e2
        rwa [sup_self (show sup S b _ l = _ by rw [sup_ne (fun z => ne z.symm)]; exact e2)] at q
      | cons n r =>
        have e3 : ∀ o, sup S l o b = some (.lst [.ref l, .int z]) := fun o => by rw [sup_ne ne]; exact e1
        have en : decide (n :: r = []) = false := by simp
        rw [en]
        simp only [↓DL.wSeq, ↓DL.wSlT, ↓DL.wNo, ↓DL.wPart, ↓DL.dSlT, ↓DL.dCat, ↓DL.dListT, ↓DL.wFor, ↓DL.iR1, ↓DL.iR2, ↓DL.iTp, ↓DL.iLs, ↓DL.iNw, ↓DL.iLn, ↓DL.wNext, ↓DL.wIf, ↓DL.wRet, ↓DL.wRetN, ↓DL.wDrop, ↓DL.wAsg, ↓DL.gNm, ↓DL.wPar, ↓DL.wVar, ↓DL.wC, ↓DL.wOp, ↓DL.wUn, ↓DL.wTst, ↓DL.wChain, ↓DL.wAnd, ↓DL.wOr, ↓DL.wNot, ↓DL.wAndV, ↓DL.wOrV, ↓DL.wNotV, ↓DL.wIfE, ↓DL.wNil, ↓DL.wCons, ↓DL.wTup, ↓DL.wLst, ↓DL.wNew, ↓DL.wDer, ↓DL.wVL, ↓DL.wVLL, ↓DL.wALL, ↓DL.wCall, ↓DL.wIsa, ↓DL.wRaise, ↓DL.isB, ↓DL.dI0, ↓DL.dI, ↓DL.dU, ↓DL.dLen, ↓DL.dIx, ↓DL.gSubD, ↓DL.setD, ↓DL.wBM, ↓DL.isL, ↓DL.onL, ↓DL.dPopAt, ↓DL.dAppend, ↓DL.wIxV, ↓DL.wEqVL, ↓DL.wEqL, ↓DL.dEqS, ↓DL.dNeS, ↓DL.startD, List.map_cons, List.map_nil, List.length_cons, List.length_nil, List.cons_append, List.nil_append, List.replicate_succ, List.replicate_zero, List.getElem?_cons_zero, List.getElem?_cons_succ, List.set_cons_zero, List.set_cons_succ, Nat.reduceAdd, Nat.reduceSub, Nat.sub_self, ↓DL.kindD, ↓DL.dIsN, ↓DL.dNotN, ↓DL.isaB, String.reduceBEq, Bool.or_false, Bool.false_or, Bool.true_or, Bool.or_true, Bool.and_true, Bool.and_false, Bool.true_and, Bool.false_and, decide_true, decide_false, ↓DL.isNon, if_true, if_false, Bool.not_true, Bool.not_false, Bool.false_eq_true, reduceIte, true_and, and_true, ↓DL.dAddX, ↓DL.dMulX, ↓DL.dIxX, ↓DL.wSlX, ↓DL.dSlX, ↓DL.wSlL2, ↓DL.withL_rl, ↓DL.lsOf, ↓DL.wDerL, ↓DL.wFz, ↓DL.wFzR, ↓DL.frzD, ↓DL.wSide, ↓DL.wCatX, ↓DL.dEqA, ↓DL.scalEq, ↓DL.eqB, ↓DL.iLq, ↓DL.iSg, ↓DL.iEn, ↓DL.wM1, ↓DL.isStr, ↓DL.dJoin, ↓DL.dStrip, ↓DL.wSplit, ↓DL.dIntX, ↓DL.dInF, ↓DL.dInS, ↓DL.seqOf, ↓DL.wPar3, ↓DL.wFld, ↓DL.fldD, ↓DL.wSetF, ↓DL.setFD, ↓DL.wAugF, ↓DL.wMeth, ↓DL.recvD, ↓DL.wMake, ↓DL.fillP, ↓DL.wAsg2, ↓DL.gFldD, ↓DL.gStD, ↓DL.starV, ↓DL.gCs, ↓DL.gNl, ↓DL.gTp, Nat.add_zero, List.append_nil, List.zipWith_nil_left, List.zipWith_cons_cons, List.getD_cons_zero, ↓DL.wYes, reduceCtorEq, ↓DL.dEqX, ↓DL.dInD, DL.dataS_rl, DL.dataS_tup, DL.dataS_int, DL.dataS_str, DL.dataS_non, DL.dataD_nil, DL.dataD_ti, DL.dataD_li, ↓DL.isL2, ↓DL.dCountX, ↓DL.dIndexX, Option.isSome_some, ↓DL.dStrX, e2, sup_same, sup_sup, atI0, atI1, ixN0, e3, seqIndex0, List.eraseIdx_cons_zero]
        refine ⟨⟨m0, ml⟩, ?_⟩
        have fin : ∀ ns' : List Int, ns'.length ≤ 63 → Q (.int (n % many)) (sup S l (.lst (ns'.map D.int))) := fun ns' hn => by
          have q := h (n % many) z ns' (Int.emod_nonneg _ (by omega)) (Int.emod_lt_of_pos _ m0) z0 z1 hn
          rwa [sup_self e1] at q
        have f1 := fin r (by simp at hl; omega)
        have f2 := fin (n / many :: r) (by simpa using hl)
        split
        · exact ⟨by decide, m0, f1⟩
        · split
          · exact ⟨by decide, m0, f1⟩
          · exact ⟨m0, f2⟩
    · exact h.elim
theorem ok__law_take (G : Def K mg "_law_take" s__law_take ["_law_box", "_law_many"]) (T : Txt K mg) : Cal P w K mg base "_law_take" 1 ["_law_box", "_law_many"] sp_take := take_close (okO_take G T)

--HINT _law_begun | _law_script | any
--HINT _law_begun | list(_law_script) | new
--HINT _law_begun | [list(_law_script), _law_stirred * int(len(_law_script) > 2)] | new
theorem sc__law_begun : FnScope ["_law_script", "_law_stirred", "_law_cell"] ["_law_script"] (defScope s__law_begun) := ⟨rfl, rfl, rfl, by decide +kernel, rfl, by decide +kernel, by decide +kernel⟩
theorem okO_begun (G : Def K mg "_law_begun" s__law_begun ["_law_script"]) (T : Txt K mg) : Cal P w K mg base "_law_begun" 1 ["_law_script"] sp_begunO := by
  refine G.cal sc__law_begun (fun ds S Q E h => ?_) fun f cdv A outer s H E hr => ⟨_, (dpss_cons (dps_set (i := 1) sc__law_begun.nd rfl (by first | exact Or.inl rfl | exact Or.inr rfl) dpe_int)
    (dpss_cons (dps_for (passes_of rfl) rfl (dpi_ln (dv 0)) (dpg_name (vs := [2]) (i := 2) sc__law_begun.nd rfl (by first | exact Or.inl rfl | exact Or.inr rfl) (by decide)) (dpss_one (dps_set (i := 1) sc__law_begun.nd rfl (by first | exact Or.inl rfl | exact Or.inr rfl) (dpe_op op_mod lr_intC (dpe_op op_addX lr_addX (dpe_op op_addX lr_addX (dpe_op op_mulT lr_mulX (dv 1) dpe_int) (dpe_op op_mulT lr_mulX (dv 2) dpe_int)) dpe_int) dpe_int))))
    (dpss_one (dps_ret (dpe_new (dpl_lst (dpa_cons (dpe_new (dpl_list rfl T.b_list bb_list (dpa_cons (dv 0) dpa_nil))) (dpa_cons (dpe_op op_mulT lr_mulX (dv 1) (dpe_ta (DL.CallR.or call_int1 call_int_str) lc_intX rfl T.b_int bb_int (dpa_cons (dpe_cmp op_gt lr_cmp (dpe_ba call_len lc_len rfl T.b_len bb_len (dpa_cons (dv 0) dpa_nil)) dpe_int (nomark _)) dpa_nil))) dpa_nil)))))))), ?_⟩
  · unfold sp_begunO at h; split at h <;> first | rfl | exact h.elim
  · intro ds S Q ED h
    unfold sp_begunO at h
    split at h
    · rename_i d
      obtain ⟨ns, hi, hn, h⟩ := h
      have bnd : ∀ (s : Int) (b : Bool), 0 ≤ s → s < 2147483647 → 0 ≤ s * (if b = true then 1 else 0) ∧ s * (if b = true then 1 else 0) < 2147483647 := fun s b h0 h1 => by cases b <;> simp <;> omega
      rcases hi with rfl | ⟨a, rfl, ea⟩
      · simp only [↓DL.wSeq, ↓DL.wSlT, ↓DL.wNo, ↓DL.wPart, ↓DL.dSlT, ↓DL.dCat, ↓DL.dListT, ↓DL.wFor, ↓DL.iR1, ↓DL.iR2, ↓DL.iTp, ↓DL.iLs, ↓DL.iNw, ↓DL.iLn, ↓DL.wNext, ↓DL.wIf, ↓DL.wRet, ↓DL.wRetN, ↓DL.wDrop, ↓DL.wAsg, ↓DL.gNm, ↓DL.wPar, ↓DL.wVar, ↓DL.wC, ↓DL.wOp, ↓DL.wUn, ↓DL.wTst, ↓DL.wChain, ↓DL.wAnd, ↓DL.wOr, ↓DL.wNot, ↓DL.wAndV, ↓DL.wOrV, ↓DL.wNotV, ↓DL.wIfE, ↓DL.wNil, ↓DL.wCons, ↓DL.wTup, ↓DL.wLst, ↓DL.wNew, ↓DL.wDer, ↓DL.wVL, ↓DL.wVLL, ↓DL.wALL, ↓DL.wCall, ↓DL.wIsa, ↓DL.wRaise, ↓DL.isB, ↓DL.dI0, ↓DL.dI, ↓DL.dU, ↓DL.dLen, ↓DL.dIx, ↓DL.gSubD, ↓DL.setD, ↓DL.wBM, ↓DL.isL, ↓DL.onL, ↓DL.dPopAt, ↓DL.dAppend, ↓DL.wIxV, ↓DL.wEqVL, ↓DL.wEqL, ↓DL.dEqS, ↓DL.dNeS, ↓DL.startD, List.map_cons, List.map_nil, List.length_cons, List.length_nil, List.cons_append, List.nil_append, List.replicate_succ, List.replicate_zero, List.getElem?_cons_zero, List.getElem?_cons_succ, List.set_cons_zero, List.set_cons_succ, Nat.reduceAdd, Nat.reduceSub, Nat.sub_self, ↓DL.kindD, ↓DL.dIsN, ↓DL.dNotN, ↓DL.isaB, String.reduceBEq, Bool.or_false, Bool.false_or, Bool.true_or, Bool.or_true, Bool.and_true, Bool.and_false, Bool.true_and, Bool.false_and, decide_true, decide_false, ↓DL.isNon, if_true, if_false, Bool.not_true, Bool.not_false, Bool.false_eq_true, reduceIte, true_and, and_true, ↓DL.dAddX, ↓DL.dMulX, ↓DL.dIxX, ↓DL.wSlX, ↓DL.dSlX, ↓DL.wSlL2, ↓DL.withL_rl, ↓DL.lsOf, ↓DL.wDerL, ↓DL.wFz, ↓DL.wFzR, ↓DL.frzD, ↓DL.wSide, ↓DL.wCatX, ↓DL.dEqA, ↓DL.scalEq, ↓DL.eqB, ↓DL.iLq, ↓DL.iSg, ↓DL.iEn, ↓DL.wM1, ↓DL.isStr, ↓DL.dJoin, ↓DL.dStrip, ↓DL.wSplit, ↓DL.dIntX, ↓DL.dInF, ↓DL.dInS, ↓DL.seqOf, ↓DL.wPar3, ↓DL.wFld, ↓DL.fldD, ↓DL.wSetF, ↓DL.setFD, ↓DL.wAugF, ↓DL.wMeth, ↓DL.recvD, ↓DL.wMake, ↓DL.fillP, ↓DL.wAsg2, ↓DL.gFldD, ↓DL.gStD, ↓DL.starV, ↓DL.gCs, ↓DL.gNl, ↓DL.gTp, Nat.add_zero, List.append_nil, List.zipWith_nil_left, List.zipWith_cons_cons, List.getD_cons_zero, ↓DL.wYes, reduceCtorEq, ↓DL.dEqX, ↓DL.dInD, DL.dataS_rl, DL.dataS_tup, DL.dataS_int, DL.dataS_str, DL.dataS_non, DL.dataD_nil, DL.dataD_ti, DL.dataD_li, ↓DL.isL2, ↓DL.dCountX, ↓DL.dIndexX, Option.isSome_some, ↓DL.dStrX, wFor, iLn]
        refine forW_ind (fun ds σ S' => ∃ (ms : List Int) (s : Int) (c : Option D), ds = ms.map D.int ∧ σ = [some (.kl (ns.map D.int)), some (.int s), c] ∧ S' = S ∧ 0 ≤ s ∧ s < 2147483647) ?_ ?_ ⟨ns, 0, none, rfl, rfl, rfl, by decide, by decide⟩
        · rintro σ S' ⟨ms, s, c, -, rfl, rfl, h0, h1⟩
          simp only [↓DL.wSeq, ↓DL.wSlT, ↓DL.wNo, ↓DL.wPart, ↓DL.dSlT, ↓DL.dCat, ↓DL.dListT, ↓DL.wFor, ↓DL.iR1, ↓DL.iR2, ↓DL.iTp, ↓DL.iLs, ↓DL.iNw, ↓DL.iLn, ↓DL.wNext, ↓DL.wIf, ↓DL.wRet, ↓DL.wRetN, ↓DL.wDrop, ↓DL.wAsg, ↓DL.gNm, ↓DL.wPar, ↓DL.wVar, ↓DL.wC, ↓DL.wOp, ↓DL.wUn, ↓DL.wTst, ↓DL.wChain, ↓DL.wAnd, ↓DL.wOr, ↓DL.wNot, ↓DL.wAndV, ↓DL.wOrV, ↓DL.wNotV, ↓DL.wIfE, ↓DL.wNil, ↓DL.wCons, ↓DL.wTup, ↓DL.wLst, ↓DL.wNew, ↓DL.wDer, ↓DL.wVL, ↓DL.wVLL, ↓DL.wALL, ↓DL.wCall, ↓DL.wIsa, ↓DL.wRaise, ↓DL.isB, ↓DL.dI0, ↓DL.dI, ↓DL.dU, ↓DL.dLen, ↓DL.dIx, ↓DL.gSubD, ↓DL.setD, ↓DL.wBM, ↓DL.isL, ↓DL.onL, ↓DL.dPopAt, ↓DL.dAppend, ↓DL.wIxV, ↓DL.wEqVL, ↓DL.wEqL, ↓DL.dEqS, ↓DL.dNeS, ↓DL.startD, List.map_cons, List.map_nil, List.length_cons, List.length_nil, List.cons_append, List.nil_append, List.replicate_succ, List.replicate_zero, List.getElem?_cons_zero, List.getElem?_cons_succ, List.set_cons_zero, List.set_cons_succ, Nat.reduceAdd, Nat.reduceSub, Nat.sub_self, ↓DL.kindD, ↓DL.dIsN, ↓DL.dNotN, ↓DL.isaB, String.reduceBEq, Bool.or_false, Bool.false_or, Bool.true_or, Bool.or_true, Bool.and_true, Bool.and_false, Bool.true_and, Bool.false_and, decide_true, decide_false, ↓DL.isNon, if_true, if_false, Bool.not_true, Bool.not_false, Bool.false_eq_true, reduceIte, true_and, and_true, ↓DL.dAddX, ↓DL.dMulX, ↓DL.dIxX, ↓DL.wSlX, ↓DL.dSlX, ↓DL.wSlL2, ↓DL.withL_rl, ↓DL.lsOf, ↓DL.wDerL, ↓DL.wFz, ↓DL.wFzR, ↓DL.frzD, ↓DL.wSide, ↓DL.wCatX, ↓DL.dEqA, ↓DL.scalEq, ↓DL.eqB, ↓DL.iLq, ↓DL.iSg, ↓DL.iEn, ↓DL.wM1, ↓DL.isStr, ↓DL.dJoin, ↓DL.dStrip, ↓DL.wSplit, ↓DL.dIntX, ↓DL.dInF, ↓DL.dInS, ↓DL.seqOf, ↓DL.wPar3, ↓DL.wFld, ↓DL.fldD, ↓DL.wSetF, ↓DL.setFD, ↓DL.wAugF, ↓DL.wMeth, ↓DL.recvD, ↓DL.wMake, ↓DL.fillP, ↓DL.wAsg2, ↓DL.gFldD, ↓DL.gStD, ↓DL.starV, ↓DL.gCs, ↓DL.gNl, ↓DL.gTp, Nat.add_zero, List.append_nil, List.zipWith_nil_left, List.zipWith_cons_cons, List.getD_cons_zero, ↓DL.wYes, reduceCtorEq, ↓DL.dEqX, ↓DL.dInD, DL.dataS_rl, DL.dataS_tup, DL.dataS_int, DL.dataS_str, DL.dataS_non, DL.dataD_nil, DL.dataD_ti, DL.dataD_li, ↓DL.isL2, ↓DL.dCountX, ↓DL.dIndexX, Option.isSome_some, ↓DL.dStrX, dListT, dIntOf]
          intro l hl
          refine ⟨.inr (by split <;> decide), by decide, fun b hb => ?_⟩
          obtain ⟨g0, g1⟩ := bnd s (decide (2 < ((ns.map D.int).length : Int))) h0 h1
          exact h l b _ hl hb g0 g1
        · rintro d ds σ S' ⟨ms, s, c, e, rfl, rfl, h0, h1⟩ nx
          cases ms with
          | nil => cases e
          | cons m ms =>
            cases e
            simp only [↓DL.wSeq, ↓DL.wSlT, ↓DL.wNo, ↓DL.wPart, ↓DL.dSlT, ↓DL.dCat, ↓DL.dListT, ↓DL.wFor, ↓DL.iR1, ↓DL.iR2, ↓DL.iTp, ↓DL.iLs, ↓DL.iNw, ↓DL.iLn, ↓DL.wNext, ↓DL.wIf, ↓DL.wRet, ↓DL.wRetN, ↓DL.wDrop, ↓DL.wAsg, ↓DL.gNm, ↓DL.wPar, ↓DL.wVar, ↓DL.wC, ↓DL.wOp, ↓DL.wUn, ↓DL.wTst, ↓DL.wChain, ↓DL.wAnd, ↓DL.wOr, ↓DL.wNot, ↓DL.wAndV, ↓DL.wOrV, ↓DL.wNotV, ↓DL.wIfE, ↓DL.wNil, ↓DL.wCons, ↓DL.wTup, ↓DL.wLst, ↓DL.wNew, ↓DL.wDer, ↓DL.wVL, ↓DL.wVLL, ↓DL.wALL, ↓DL.wCall, ↓DL.wIsa, ↓DL.wRaise, ↓DL.isB, ↓DL.dI0, ↓DL.dI, ↓DL.dU, ↓DL.dLen, ↓DL.dIx, ↓DL.gSubD, ↓DL.setD, ↓DL.wBM, ↓DL.isL, ↓DL.onL, ↓DL.dPopAt, ↓DL.dAppend, ↓DL.wIxV, ↓DL.wEqVL, ↓DL.wEqL, ↓DL.dEqS, ↓DL.dNeS, ↓DL.startD, List.map_cons, List.map_nil, List.length_cons, List.length_nil, List.cons_append, List.nil_append, List.replicate_succ, List.replicate_zero, List.getElem?_cons_zero, List.getElem?_cons_succ, List.set_cons_zero, List.set_cons_succ, Nat.reduceAdd, Nat.reduceSub, Nat.sub_self, ↓DL.kindD, ↓DL.dIsN, ↓DL.dNotN, ↓DL.isaB, String.reduceBEq, Bool.or_false, Bool.false_or, Bool.true_or, Bool.or_true, Bool.and_true, Bool.and_false, Bool.true_and, Bool.false_and, decide_true, decide_false, ↓DL.isNon, if_true, if_false, Bool.not_true, Bool.not_false, Bool.false_eq_true, reduceIte, true_and, and_true, ↓DL.dAddX, ↓DL.dMulX, ↓DL.dIxX, ↓DL.wSlX, ↓DL.dSlX, ↓DL.wSlL2, ↓DL.withL_rl, ↓DL.lsOf, ↓DL.wDerL, ↓DL.wFz, ↓DL.wFzR, ↓DL.frzD, ↓DL.wSide, ↓DL.wCatX, ↓DL.dEqA, ↓DL.scalEq, ↓DL.eqB, ↓DL.iLq, ↓DL.iSg, ↓DL.iEn, ↓DL.wM1, ↓DL.isStr, ↓DL.dJoin, ↓DL.dStrip, ↓DL.wSplit, ↓DL.dIntX, ↓DL.dInF, ↓DL.dInS, ↓DL.seqOf, ↓DL.wPar3, ↓DL.wFld, ↓DL.fldD, ↓DL.wSetF, ↓DL.setFD, ↓DL.wAugF, ↓DL.wMeth, ↓DL.recvD, ↓DL.wMake, ↓DL.fillP, ↓DL.wAsg2, ↓DL.gFldD, ↓DL.gStD, ↓DL.starV, ↓DL.gCs, ↓DL.gNl, ↓DL.gTp, Nat.add_zero, List.append_nil, List.zipWith_nil_left, List.zipWith_cons_cons, List.getD_cons_zero, ↓DL.wYes, reduceCtorEq, ↓DL.dEqX, ↓DL.dInD, DL.dataS_rl, DL.dataS_tup, DL.dataS_int, DL.dataS_str, DL.dataS_non, DL.dataD_nil, DL.dataD_ti, DL.dataD_li, ↓DL.isL2, ↓DL.dCountX, ↓DL.dIndexX, Option.isSome_some, ↓DL.dStrX]
            exact ⟨.inr (by decide), .inr (by decide), by decide, nx _ _ ⟨ms, _, _, rfl, rfl, rfl, Int.emod_nonneg _ (by decide), Int.emod_lt_of_pos _ (by decide)⟩⟩
      · simp only [↓DL.wSeq, ↓DL.wSlT, ↓DL.wNo, ↓DL.wPart, ↓DL.dSlT, ↓DL.dCat, ↓DL.dListT, ↓DL.wFor, ↓DL.iR1, ↓DL.iR2, ↓DL.iTp, ↓DL.iLs, ↓DL.iNw, ↓DL.iLn, ↓DL.wNext, ↓DL.wIf, ↓DL.wRet, ↓DL.wRetN, ↓DL.wDrop, ↓DL.wAsg, ↓DL.gNm, ↓DL.wPar, ↓DL.wVar, ↓DL.wC, ↓DL.wOp, ↓DL.wUn, ↓DL.wTst, ↓DL.wChain, ↓DL.wAnd, ↓DL.wOr, ↓DL.wNot, ↓DL.wAndV, ↓DL.wOrV, ↓DL.wNotV, ↓DL.wIfE, ↓DL.wNil, ↓DL.wCons, ↓DL.wTup, ↓DL.wLst, ↓DL.wNew, ↓DL.wDer, ↓DL.wVL, ↓DL.wVLL, ↓DL.wALL, ↓DL.wCall, ↓DL.wIsa, ↓DL.wRaise, ↓DL.isB, ↓DL.dI0, ↓DL.dI, ↓DL.dU, ↓DL.dLen, ↓DL.dIx, ↓DL.gSubD, ↓DL.setD, ↓DL.wBM, ↓DL.isL, ↓DL.onL, ↓DL.dPopAt, ↓DL.dAppend, ↓DL.wIxV, ↓DL.wEqVL, ↓DL.wEqL, ↓DL.dEqS, ↓DL.dNeS, ↓DL.startD, List.map_cons, List.map_nil, List.length_cons, List.length_nil, List.cons_append, List.nil_append, List.replicate_succ, List.replicate_zero, List.getElem?_cons_zero, List.getElem?_cons_succ, List.set_cons_zero, List.set_cons_succ, Nat.reduceAdd, Nat.reduceSub, Nat.sub_self, ↓DL.kindD, ↓DL.dIsN, ↓DL.dNotN, ↓DL.isaB, String.reduceBEq, Bool.or_false, Bool.false_or, Bool.true_or, Bool.or_true, Bool.and_true, Bool.and_false, Bool.true_and, Bool.false_and, decide_true, decide_false, ↓DL.isNon, if_true, if_false, Bool.not_true, Bool.not_false, Bool.false_eq_true, reduceIte, true_and, and_true, ↓DL.dAddX, ↓DL.dMulX, ↓DL.dIxX, ↓DL.wSlX, ↓DL.dSlX, ↓DL.wSlL2, ↓DL.withL_rl, ↓DL.lsOf, ↓DL.wDerL, ↓DL.wFz, ↓DL.wFzR, ↓DL.frzD, ↓DL.wSide, ↓DL.wCatX, ↓DL.dEqA, ↓DL.scalEq, ↓DL.eqB, ↓DL.iLq, ↓DL.iSg, ↓DL.iEn, ↓DL.wM1, ↓DL.isStr, ↓DL.dJoin, ↓DL.dStrip, ↓DL.wSplit, ↓DL.dIntX, ↓DL.dInF, ↓DL.dInS, ↓DL.seqOf, ↓DL.wPar3, ↓DL.wFld, ↓DL.fldD, ↓DL.wSetF, ↓DL.setFD, ↓DL.wAugF, ↓DL.wMeth, ↓DL.recvD, ↓DL.wMake, ↓DL.fillP, ↓DL.wAsg2, ↓DL.gFldD, ↓DL.gStD, ↓DL.starV, ↓DL.gCs, ↓DL.gNl, ↓DL.gTp, Nat.add_zero, List.append_nil, List.zipWith_nil_left, List.zipWith_cons_cons, List.getD_cons_zero, ↓DL.wYes, reduceCtorEq, ↓DL.dEqX, ↓DL.dInD, DL.dataS_rl, DL.dataS_tup, DL.dataS_int, DL.dataS_str, DL.dataS_non, DL.dataD_nil, DL.dataD_ti, DL.dataD_li, ↓DL.isL2, ↓DL.dCountX, ↓DL.dIndexX, Option.isSome_some, ↓DL.dStrX, wFor, iLn, ea]
        refine forW_ind (fun ds σ S' => ∃ (ms : List Int) (s : Int) (c : Option D), ds = ms.map D.int ∧ σ = [some (.ref a), some (.int s), c] ∧ S' = S ∧ 0 ≤ s ∧ s < 2147483647) ?_ ?_ ⟨ns, 0, none, rfl, rfl, rfl, by decide, by decide⟩
        · rintro σ S' ⟨ms, s, c, -, rfl, rfl, h0, h1⟩
          simp only [↓DL.wSeq, ↓DL.wSlT, ↓DL.wNo, ↓DL.wPart, ↓DL.dSlT, ↓DL.dCat, ↓DL.dListT, ↓DL.wFor, ↓DL.iR1, ↓DL.iR2, ↓DL.iTp, ↓DL.iLs, ↓DL.iNw, ↓DL.iLn, ↓DL.wNext, ↓DL.wIf, ↓DL.wRet, ↓DL.wRetN, ↓DL.wDrop, ↓DL.wAsg, ↓DL.gNm, ↓DL.wPar, ↓DL.wVar, ↓DL.wC, ↓DL.wOp, ↓DL.wUn, ↓DL.wTst, ↓DL.wChain, ↓DL.wAnd, ↓DL.wOr, ↓DL.wNot, ↓DL.wAndV, ↓DL.wOrV, ↓DL.wNotV, ↓DL.wIfE, ↓DL.wNil, ↓DL.wCons, ↓DL.wTup, ↓DL.wLst, ↓DL.wNew, ↓DL.wDer, ↓DL.wVL, ↓DL.wVLL, ↓DL.wALL, ↓DL.wCall, ↓DL.wIsa, ↓DL.wRaise, ↓DL.isB, ↓DL.dI0, ↓DL.dI, ↓DL.dU, ↓DL.dLen, ↓DL.dIx, ↓DL.gSubD, ↓DL.setD, ↓DL.wBM, ↓DL.isL, ↓DL.onL, ↓DL.dPopAt, ↓DL.dAppend, ↓DL.wIxV, ↓DL.wEqVL, ↓DL.wEqL, ↓DL.dEqS, ↓DL.dNeS, ↓DL.startD, List.map_cons, List.map_nil, List.length_cons, List.length_nil, List.cons_append, List.nil_append, List.replicate_succ, List.replicate_zero, List.getElem?_cons_zero, List.getElem?_cons_succ, List.set_cons_zero, List.set_cons_succ, Nat.reduceAdd, Nat.reduceSub, Nat.sub_self, ↓DL.kindD, ↓DL.dIsN, ↓DL.dNotN, ↓DL.isaB, String.reduceBEq, Bool.or_false, Bool.false_or, Bool.true_or, Bool.or_true, Bool.and_true, Bool.and_false, Bool.true_and, Bool.false_and, decide_true, decide_false, ↓DL.isNon, if_true, if_false, Bool.not_true, Bool.not_false, Bool.false_eq_true, reduceIte, true_and, and_true, ↓DL.dAddX, ↓DL.dMulX, ↓DL.dIxX, ↓DL.wSlX, ↓DL.dSlX, ↓DL.wSlL2, ↓DL.withL_rl, ↓DL.lsOf, ↓DL.wDerL, ↓DL.wFz, ↓DL.wFzR, ↓DL.frzD, ↓DL.wSide, ↓DL.wCatX, ↓DL.dEqA, ↓DL.scalEq, ↓DL.eqB, ↓DL.iLq, ↓DL.iSg, ↓DL.iEn, ↓DL.wM1, ↓DL.isStr, ↓DL.dJoin, ↓DL.dStrip, ↓DL.wSplit, ↓DL.dIntX, ↓DL.dInF, ↓DL.dInS, ↓DL.seqOf, ↓DL.wPar3, ↓DL.wFld, ↓DL.fldD, ↓DL.wSetF, ↓DL.setFD, ↓DL.wAugF, ↓DL.wMeth, ↓DL.recvD, ↓DL.wMake, ↓DL.fillP, ↓DL.wAsg2, ↓DL.gFldD, ↓DL.gStD, ↓DL.starV, ↓DL.gCs, ↓DL.gNl, ↓DL.gTp, Nat.add_zero, List.append_nil, List.zipWith_nil_left, List.zipWith_cons_cons, List.getD_cons_zero, ↓DL.wYes, reduceCtorEq, ↓DL.dEqX, ↓DL.dInD, DL.dataS_rl, DL.dataS_tup, DL.dataS_int, DL.dataS_str, DL.dataS_non, DL.dataD_nil, DL.dataD_ti, DL.dataD_li, ↓DL.isL2, ↓DL.dCountX, ↓DL.dIndexX, Option.isSome_some, ↓DL.dStrX, dListT, dIntOf, ea]
          intro l hl
          rw [sup_ne (sne ea hl), ea]
          simp only [↓DL.wSeq, ↓DL.wSlT, ↓DL.wNo, ↓DL.wPart, ↓DL.dSlT, ↓DL.dCat, ↓DL.dListT, ↓DL.wFor, ↓DL.iR1, ↓DL.iR2, ↓DL.iTp, ↓DL.iLs, ↓DL.iNw, ↓DL.iLn, ↓DL.wNext, ↓DL.wIf, ↓DL.wRet, ↓DL.wRetN, ↓DL.wDrop, ↓DL.wAsg, ↓DL.gNm, ↓DL.wPar, ↓DL.wVar, ↓DL.wC, ↓DL.wOp, ↓DL.wUn, ↓DL.wTst, ↓DL.wChain, ↓DL.wAnd, ↓DL.wOr, ↓DL.wNot, ↓DL.wAndV, ↓DL.wOrV, ↓DL.wNotV, ↓DL.wIfE, ↓DL.wNil, ↓DL.wCons, ↓DL.wTup, ↓DL.wLst, ↓DL.wNew, ↓DL.wDer, ↓DL.wVL, ↓DL.wVLL, ↓DL.wALL, ↓DL.wCall, ↓DL.wIsa, ↓DL.wRaise, ↓DL.isB, ↓DL.dI0, ↓DL.dI, ↓DL.dU, ↓DL.dLen, ↓DL.dIx, ↓DL.gSubD, ↓DL.setD, ↓DL.wBM, ↓DL.isL, ↓DL.onL, ↓DL.dPopAt, ↓DL.dAppend, ↓DL.wIxV, ↓DL.wEqVL, ↓DL.wEqL, ↓DL.dEqS, ↓DL.dNeS, ↓DL.startD, List.map_cons, List.map_nil, List.length_cons, List.length_nil, List.cons_append, List.nil_append, List.replicate_succ, List.replicate_zero, List.getElem?_cons_zero, List.getElem?_cons_succ, List.set_cons_zero, List.set_cons_succ, Nat.reduceAdd, Nat.reduceSub, Nat.sub_self, ↓DL.kindD, ↓DL.dIsN, ↓DL.dNotN, ↓DL.isaB, String.reduceBEq, Bool.or_false, Bool.false_or, Bool.true_or, Bool.or_true, Bool.and_true, Bool.and_false, Bool.true_and, Bool.false_and, decide_true, decide_false, ↓DL.isNon, if_true, if_false, Bool.not_true, Bool.not_false, Bool.false_eq_true, reduceIte, true_and, and_true, ↓DL.dAddX, ↓DL.dMulX, ↓DL.dIxX, ↓DL.wSlX, ↓DL.dSlX, ↓DL.wSlL2, ↓DL.withL_rl, ↓DL.lsOf, ↓DL.wDerL, ↓DL.wFz, ↓DL.wFzR, ↓DL.frzD, ↓DL.wSide, ↓DL.wCatX, ↓DL.dEqA, ↓DL.scalEq, ↓DL.eqB, ↓DL.iLq, ↓DL.iSg, ↓DL.iEn, ↓DL.wM1, ↓DL.isStr, ↓DL.dJoin, ↓DL.dStrip, ↓DL.wSplit, ↓DL.dIntX, ↓DL.dInF, ↓DL.dInS, ↓DL.seqOf, ↓DL.wPar3, ↓DL.wFld, ↓DL.fldD, ↓DL.wSetF, ↓DL.setFD, ↓DL.wAugF, ↓DL.wMeth, ↓DL.recvD, ↓DL.wMake, ↓DL.fillP, ↓DL.wAsg2, ↓DL.gFldD, ↓DL.gStD, ↓DL.starV, ↓DL.gCs, ↓DL.gNl, ↓DL.gTp, Nat.add_zero, List.append_nil, List.zipWith_nil_left, List.zipWith_cons_cons, List.getD_cons_zero, ↓DL.wYes, reduceCtorEq, ↓DL.dEqX, ↓DL.dInD, DL.dataS_rl, DL.dataS_tup, DL.dataS_int, DL.dataS_str, DL.dataS_non, DL.dataD_nil, DL.dataD_ti, DL.dataD_li, ↓DL.isL2, ↓DL.dCountX, ↓DL.dIndexX, Option.isSome_some, ↓DL.dStrX, dIntOf]
          refine ⟨.inr (by split <;> decide), by decide, fun b hb => ?_⟩
          obtain ⟨g0, g1⟩ := bnd s (decide (2 < ((ns.map D.int).length : Int))) h0 h1
          exact h l b _ hl hb g0 g1
        · rintro d ds σ S' ⟨ms, s, c, e, rfl, rfl, h0, h1⟩ nx
          cases ms with
          | nil => cases e
          | cons m ms =>
            cases e
            simp only [↓DL.wSeq, ↓DL.wSlT, ↓DL.wNo, ↓DL.wPart, ↓DL.dSlT, ↓DL.dCat, ↓DL.dListT, ↓DL.wFor, ↓DL.iR1, ↓DL.iR2, ↓DL.iTp, ↓DL.iLs, ↓DL.iNw, ↓DL.iLn, ↓DL.wNext, ↓DL.wIf, ↓DL.wRet, ↓DL.wRetN, ↓DL.wDrop, ↓DL.wAsg, ↓DL.gNm, ↓DL.wPar, ↓DL.wVar, ↓DL.wC, ↓DL.wOp, ↓DL.wUn, ↓DL.wTst, ↓DL.wChain, ↓DL.wAnd, ↓DL.wOr, ↓DL.wNot, ↓DL.wAndV, ↓DL.wOrV, ↓DL.wNotV, ↓DL.wIfE, ↓DL.wNil, ↓DL.wCons, ↓DL.wTup, ↓DL.wLst, ↓DL.wNew, ↓DL.wDer, ↓DL.wVL, ↓DL.wVLL, ↓DL.wALL, ↓DL.wCall, ↓DL.wIsa, ↓DL.wRaise, ↓DL.isB, ↓DL.dI0, ↓DL.dI, ↓DL.dU, ↓DL.dLen, ↓DL.dIx, ↓DL.gSubD, ↓DL.setD, ↓DL.wBM, ↓DL.isL, ↓DL.onL, ↓DL.dPopAt, ↓DL.dAppend, ↓DL.wIxV, ↓DL.wEqVL, ↓DL.wEqL, ↓DL.dEqS, ↓DL.dNeS, ↓DL.startD, List.map_cons, List.map_nil, List.length_cons, List.length_nil, List.cons_append, List.nil_append, List.replicate_succ, List.replicate_zero, List.getElem?_cons_zero, List.getElem?_cons_succ, List.set_cons_zero, List.set_cons_succ, Nat.reduceAdd, Nat.reduceSub, Nat.sub_self, ↓DL.kindD, ↓DL.dIsN, ↓DL.dNotN, ↓DL.isaB, String.reduceBEq, Bool.or_false, Bool.false_or, Bool.true_or, Bool.or_true, Bool.and_true, Bool.and_false, Bool.true_and, Bool.false_and, decide_true, decide_false, ↓DL.isNon, if_true, if_false, Bool.not_true, Bool.not_false, Bool.false_eq_true, reduceIte, true_and, and_true, ↓DL.dAddX, ↓DL.dMulX, ↓DL.dIxX, ↓DL.wSlX, ↓DL.dSlX, ↓DL.wSlL2, ↓DL.withL_rl, ↓DL.lsOf, ↓DL.wDerL, ↓DL.wFz, ↓DL.wFzR, ↓DL.frzD, ↓DL.wSide, ↓DL.wCatX, ↓DL.dEqA, ↓DL.scalEq, ↓DL.eqB, ↓DL.iLq, ↓DL.iSg, ↓DL.iEn, ↓DL.wM1, ↓DL.isStr, ↓DL.dJoin, ↓DL.dStrip, ↓DL.wSplit, ↓DL.dIntX, ↓DL.dInF, ↓DL.dInS, ↓DL.seqOf, ↓DL.wPar3, ↓DL.wFld, ↓DL.fldD, ↓DL.wSetF, ↓DL.setFD, ↓DL.wAugF, ↓DL.wMeth, ↓DL.recvD, ↓DL.wMake, ↓DL.fillP, ↓DL.wAsg2, ↓DL.gFldD, ↓DL.gStD, ↓DL.starV, ↓DL.gCs, ↓DL.gNl, ↓DL.gTp, Nat.add_zero, List.append_nil, List.zipWith_nil_left, List.zipWith_cons_cons, List.getD_cons_zero, ↓DL.wYes, reduceCtorEq, ↓DL.dEqX, ↓DL.dInD, DL.dataS_rl, DL.dataS_tup, DL.dataS_int, DL.dataS_str, DL.dataS_non, DL.dataD_nil, DL.dataD_ti, DL.dataD_li, ↓DL.isL2, ↓DL.dCountX, ↓DL.dIndexX, Option.isSome_some, ↓DL.dStrX, ea]
            exact ⟨.inr (by decide), .inr (by decide), by decide, nx _ _ ⟨ms, _, _, rfl, rfl, rfl, Int.emod_nonneg _ (by decide), Int.emod_lt_of_pos _ (by decide)⟩⟩
    · exact h.elim
theorem ok__law_begun (G : Def K mg "_law_begun" s__law_begun ["_law_script"]) (T : Txt K mg) : Cal P w K mg base "_law_begun" 1 ["_law_script"] sp_begun := begun_close (okO_begun G T)

theorem sc__law_alike : FnScope ["_law_found", "_law_due", "_law_k"] ["_law_found", "_law_due"] (defScope s__law_alike) := ⟨rfl, rfl, rfl, by decide +kernel, rfl, by decide +kernel, by decide +kernel⟩
theorem ok_alike_step (G : Def K mg "_law_alike" s__law_alike ["_law_found", "_law_due"]) (T : Txt K mg) (n : Nat) (c__law_alike : Cal P w K mg base "_law_alike" n ["_law_found", "_law_due"] (sp_alike n)) : Cal P w K mg base "_law_alike" (n + 1) ["_law_found", "_law_due"] (sp_alike (n + 1)) := by
  refine G.cal sc__law_alike (fun ds S Q E h => ?_) fun f cdv A outer s H E hr => ⟨_, (dpss_cons (dps_if (dpt_cmp op_isN lr_isN (dv 1) dpe_non (nomark _)) (dpss_one (dps_ret (dpe_cmp op_isN lr_isN (dv 0) dpe_non (nomark _)))) dpss_nil)
    (dpss_cons (dps_if (dpt_val (dpe_isa (T := "bool") (by decide) rfl T.b_isinstance bb_isinstance rfl T.b_bool bb_bool (dv 1))) (dpss_one (dps_ret (dpe_and (dpe_isa (T := "bool") (by decide) rfl T.b_isinstance bb_isinstance rfl T.b_bool bb_bool (dv 0)) (dpe_one (dpe_cmp (op_eqA (hr.units)) lr_eqA (dv 0) (dv 1) (nomark _)))))) dpss_nil)
    (dpss_cons (dps_if (dpt_val (dpe_isa (T := "int") (by decide) rfl T.b_isinstance bb_isinstance rfl T.b_int bb_int (dv 1))) (dpss_one (dps_ret (dpe_and (dpe_isa (T := "int") (by decide) rfl T.b_isinstance bb_isinstance rfl T.b_int bb_int (dv 0)) (dpe_and (dpe_not (dpe_isa (T := "bool") (by decide) rfl T.b_isinstance bb_isinstance rfl T.b_bool bb_bool (dv 0))) (dpe_one (dpe_cmp (op_eqA (hr.units)) lr_eqA (dv 0) (dv 1) (nomark _))))))) dpss_nil)
    (dpss_cons (dps_if (dpt_val (dpe_isa (T := "str") (by decide) rfl T.b_isinstance bb_isinstance rfl T.b_str bb_str (dv 1))) (dpss_one (dps_ret (dpe_and (dpe_isa (T := "str") (by decide) rfl T.b_isinstance bb_isinstance rfl T.b_str bb_str (dv 0)) (dpe_one (dpe_cmp (op_eqA (hr.units)) lr_eqA (dv 0) (dv 1) (nomark _)))))) dpss_nil)
    (dpss_cons (dps_if (dpw_pt (dpw_or (dpt_cmp (op_neA (hr.units)) lr_neA (dpe_isa (T := "tuple") (by decide) rfl T.b_isinstance bb_isinstance rfl T.b_tuple bb_tuple (dv 1)) (dpe_isa (T := "tuple") (by decide) rfl T.b_isinstance bb_isinstance rfl T.b_tuple bb_tuple (dv 0)) (nomark _)) (dpw_or1 (dpt_cmp (op_neA (hr.units)) lr_neA (dpe_isa (T := "list") (by decide) rfl T.b_isinstance bb_isinstance rfl T.b_list bb_list (dv 1)) (dpe_isa (T := "list") (by decide) rfl T.b_isinstance bb_isinstance rfl T.b_list bb_list (dv 0)) (nomark _))))) (dpss_one (dps_ret dpe_bl)) dpss_nil)
    (dpss_cons (dps_if (dpt_cmp (op_neA (hr.units)) lr_neA (dpe_ba call_len lc_len rfl T.b_len bb_len (dpa_cons (dv 0) dpa_nil)) (dpe_ba call_len lc_len rfl T.b_len bb_len (dpa_cons (dv 1) dpa_nil)) (nomark _)) (dpss_one (dps_ret dpe_bl)) dpss_nil)
    (dpss_cons (dps_for (passes_of rfl) rfl (dpi_r1 rfl T.b_range (dpa_cons (dpe_ba call_len lc_len rfl T.b_len bb_len (dpa_cons (dv 1) dpa_nil)) dpa_nil)) (dpg_name (vs := [2]) (i := 2) sc__law_alike.nd rfl (by first | exact Or.inl rfl | exact Or.inr rfl) (by decide)) (dpss_one (dps_if (dpt_not (dpt_val (dpe_cal c__law_alike hr (by first | decide | omega) rfl (takes_of rfl rfl rfl rfl) (dpa_cons (dpe_ixX (dv 0) (dv 2) (fun _ _ => rfl)) (dpa_cons (dpe_ixX (dv 1) (dv 2) (fun _ _ => rfl)) dpa_nil))))) (dpss_one (dps_ret dpe_bl)) dpss_nil)))
    (dpss_one (dps_ret dpe_bl))))))))), ?_⟩
  · unfold sp_alike at h; split at h <;> first | rfl | exact h.elim
  · intro ds S Q ED h
    unfold sp_alike at h
    split at h
    · rename_i f d
      obtain ⟨ha, h⟩ := h
      unfold Alk at ha
      split at ha
      · subst ha
        simp only [↓DL.wSeq, ↓DL.wSlT, ↓DL.wNo, ↓DL.wPart, ↓DL.dSlT, ↓DL.dCat, ↓DL.dListT, ↓DL.wFor, ↓DL.iR1, ↓DL.iR2, ↓DL.iTp, ↓DL.iLs, ↓DL.iNw, ↓DL.iLn, ↓DL.wNext, ↓DL.wIf, ↓DL.wRet, ↓DL.wRetN, ↓DL.wDrop, ↓DL.wAsg, ↓DL.gNm, ↓DL.wPar, ↓DL.wVar, ↓DL.wC, ↓DL.wOp, ↓DL.wUn, ↓DL.wTst, ↓DL.wChain, ↓DL.wAnd, ↓DL.wOr, ↓DL.wNot, ↓DL.wAndV, ↓DL.wOrV, ↓DL.wNotV, ↓DL.wIfE, ↓DL.wNil, ↓DL.wCons, ↓DL.wTup, ↓DL.wLst, ↓DL.wNew, ↓DL.wDer, ↓DL.wVL, ↓DL.wVLL, ↓DL.wALL, ↓DL.wCall, ↓DL.wIsa, ↓DL.wRaise, ↓DL.isB, ↓DL.dI0, ↓DL.dI, ↓DL.dU, ↓DL.dLen, ↓DL.dIx, ↓DL.gSubD, ↓DL.setD, ↓DL.wBM, ↓DL.isL, ↓DL.onL, ↓DL.dPopAt, ↓DL.dAppend, ↓DL.wIxV, ↓DL.wEqVL, ↓DL.wEqL, ↓DL.dEqS, ↓DL.dNeS, ↓DL.startD, List.map_cons, List.map_nil, List.length_cons, List.length_nil, List.cons_append, List.nil_append, List.replicate_succ, List.replicate_zero, List.getElem?_cons_zero, List.getElem?_cons_succ, List.set_cons_zero, List.set_cons_succ, Nat.reduceAdd, Nat.reduceSub, Nat.sub_self, ↓DL.kindD, ↓DL.dIsN, ↓DL.dNotN, ↓DL.isaB, String.reduceBEq, Bool.or_false, Bool.false_or, Bool.true_or, Bool.or_true, Bool.and_true, Bool.and_false, Bool.true_and, Bool.false_and, decide_true, decide_false, ↓DL.isNon, if_true, if_false, Bool.not_true, Bool.not_false, Bool.false_eq_true, reduceIte, true_and, and_true, ↓DL.dAddX, ↓DL.dMulX, ↓DL.dIxX, ↓DL.wSlX, ↓DL.dSlX, ↓DL.wSlL2, ↓DL.withL_rl, ↓DL.lsOf, ↓DL.wDerL, ↓DL.wFz, ↓DL.wFzR, ↓DL.frzD, ↓DL.wSide, ↓DL.wCatX, ↓DL.dEqA, ↓DL.scalEq, ↓DL.eqB, ↓DL.iLq, ↓DL.iSg, ↓DL.iEn, ↓DL.wM1, ↓DL.isStr, ↓DL.dJoin, ↓DL.dStrip, ↓DL.wSplit, ↓DL.dIntX, ↓DL.dInF, ↓DL.dInS, ↓DL.seqOf, ↓DL.wPar3, ↓DL.wFld, ↓DL.fldD, ↓DL.wSetF, ↓DL.setFD, ↓DL.wAugF, ↓DL.wMeth, ↓DL.recvD, ↓DL.wMake, ↓DL.fillP, ↓DL.wAsg2, ↓DL.gFldD, ↓DL.gStD, ↓DL.starV, ↓DL.gCs, ↓DL.gNl, ↓DL.gTp, Nat.add_zero, List.append_nil, List.zipWith_nil_left, List.zipWith_cons_cons, List.getD_cons_zero, ↓DL.wYes, reduceCtorEq, ↓DL.dEqX, ↓DL.dInD, DL.dataS_rl, DL.dataS_tup, DL.dataS_int, DL.dataS_str, DL.dataS_non, DL.dataD_nil, DL.dataD_ti, DL.dataD_li, ↓DL.isL2, ↓DL.dCountX, ↓DL.dIndexX, Option.isSome_some, ↓DL.dStrX]
        exact h
      · subst ha
        simp only [↓DL.wSeq, ↓DL.wSlT, ↓DL.wNo, ↓DL.wPart, ↓DL.dSlT, ↓DL.dCat, ↓DL.dListT, ↓DL.wFor, ↓DL.iR1, ↓DL.iR2, ↓DL.iTp, ↓DL.iLs, ↓DL.iNw, ↓DL.iLn, ↓DL.wNext, ↓DL.wIf, ↓DL.wRet, ↓DL.wRetN, ↓DL.wDrop, ↓DL.wAsg, ↓DL.gNm, ↓DL.wPar, ↓DL.wVar, ↓DL.wC, ↓DL.wOp, ↓DL.wUn, ↓DL.wTst, ↓DL.wChain, ↓DL.wAnd, ↓DL.wOr, ↓DL.wNot, ↓DL.wAndV, ↓DL.wOrV, ↓DL.wNotV, ↓DL.wIfE, ↓DL.wNil, ↓DL.wCons, ↓DL.wTup, ↓DL.wLst, ↓DL.wNew, ↓DL.wDer, ↓DL.wVL, ↓DL.wVLL, ↓DL.wALL, ↓DL.wCall, ↓DL.wIsa, ↓DL.wRaise, ↓DL.isB, ↓DL.dI0, ↓DL.dI, ↓DL.dU, ↓DL.dLen, ↓DL.dIx, ↓DL.gSubD, ↓DL.setD, ↓DL.wBM, ↓DL.isL, ↓DL.onL, ↓DL.dPopAt, ↓DL.dAppend, ↓DL.wIxV, ↓DL.wEqVL, ↓DL.wEqL, ↓DL.dEqS, ↓DL.dNeS, ↓DL.startD, List.map_cons, List.map_nil, List.length_cons, List.length_nil, List.cons_append, List.nil_append, List.replicate_succ, List.replicate_zero, List.getElem?_cons_zero, List.getElem?_cons_succ, List.set_cons_zero, List.set_cons_succ, Nat.reduceAdd, Nat.reduceSub, Nat.sub_self, ↓DL.kindD, ↓DL.dIsN, ↓DL.dNotN, ↓DL.isaB, String.reduceBEq, Bool.or_false, Bool.false_or, Bool.true_or, Bool.or_true, Bool.and_true, Bool.and_false, Bool.true_and, Bool.false_and, decide_true, decide_false, ↓DL.isNon, if_true, if_false, Bool.not_true, Bool.not_false, Bool.false_eq_true, reduceIte, true_and, and_true, ↓DL.dAddX, ↓DL.dMulX, ↓DL.dIxX, ↓DL.wSlX, ↓DL.dSlX, ↓DL.wSlL2, ↓DL.withL_rl, ↓DL.lsOf, ↓DL.wDerL, ↓DL.wFz, ↓DL.wFzR, ↓DL.frzD, ↓DL.wSide, ↓DL.wCatX, ↓DL.dEqA, ↓DL.scalEq, ↓DL.eqB, ↓DL.iLq, ↓DL.iSg, ↓DL.iEn, ↓DL.wM1, ↓DL.isStr, ↓DL.dJoin, ↓DL.dStrip, ↓DL.wSplit, ↓DL.dIntX, ↓DL.dInF, ↓DL.dInS, ↓DL.seqOf, ↓DL.wPar3, ↓DL.wFld, ↓DL.fldD, ↓DL.wSetF, ↓DL.setFD, ↓DL.wAugF, ↓DL.wMeth, ↓DL.recvD, ↓DL.wMake, ↓DL.fillP, ↓DL.wAsg2, ↓DL.gFldD, ↓DL.gStD, ↓DL.starV, ↓DL.gCs, ↓DL.gNl, ↓DL.gTp, Nat.add_zero, List.append_nil, List.zipWith_nil_left, List.zipWith_cons_cons, List.getD_cons_zero, ↓DL.wYes, reduceCtorEq, ↓DL.dEqX, ↓DL.dInD, DL.dataS_rl, DL.dataS_tup, DL.dataS_int, DL.dataS_str, DL.dataS_non, DL.dataD_nil, DL.dataD_ti, DL.dataD_li, ↓DL.isL2, ↓DL.dCountX, ↓DL.dIndexX, Option.isSome_some, ↓DL.dStrX]
        simpa using h
      · subst ha
        simp only [↓DL.wSeq, ↓DL.wSlT, ↓DL.wNo, ↓DL.wPart, ↓DL.dSlT, ↓DL.dCat, ↓DL.dListT, ↓DL.wFor, ↓DL.iR1, ↓DL.iR2, ↓DL.iTp, ↓DL.iLs, ↓DL.iNw, ↓DL.iLn, ↓DL.wNext, ↓DL.wIf, ↓DL.wRet, ↓DL.wRetN, ↓DL.wDrop, ↓DL.wAsg, ↓DL.gNm, ↓DL.wPar, ↓DL.wVar, ↓DL.wC, ↓DL.wOp, ↓DL.wUn, ↓DL.wTst, ↓DL.wChain, ↓DL.wAnd, ↓DL.wOr, ↓DL.wNot, ↓DL.wAndV, ↓DL.wOrV, ↓DL.wNotV, ↓DL.wIfE, ↓DL.wNil, ↓DL.wCons, ↓DL.wTup, ↓DL.wLst, ↓DL.wNew, ↓DL.wDer, ↓DL.wVL, ↓DL.wVLL, ↓DL.wALL, ↓DL.wCall, ↓DL.wIsa, ↓DL.wRaise, ↓DL.isB, ↓DL.dI0, ↓DL.dI, ↓DL.dU, ↓DL.dLen, ↓DL.dIx, ↓DL.gSubD, ↓DL.setD, ↓DL.wBM, ↓DL.isL, ↓DL.onL, ↓DL.dPopAt, ↓DL.dAppend, ↓DL.wIxV, ↓DL.wEqVL, ↓DL.wEqL, ↓DL.dEqS, ↓DL.dNeS, ↓DL.startD, List.map_cons, List.map_nil, List.length_cons, List.length_nil, List.cons_append, List.nil_append, List.replicate_succ, List.replicate_zero, List.getElem?_cons_zero, List.getElem?_cons_succ, List.set_cons_zero, List.set_cons_succ, Nat.reduceAdd, Nat.reduceSub, Nat.sub_self, ↓DL.kindD, ↓DL.dIsN, ↓DL.dNotN, ↓DL.isaB, String.reduceBEq, Bool.or_false, Bool.false_or, Bool.true_or, Bool.or_true, Bool.and_true, Bool.and_false, Bool.true_and, Bool.false_and, decide_true, decide_false, ↓DL.isNon, if_true, if_false, Bool.not_true, Bool.not_false, Bool.false_eq_true, reduceIte, true_and, and_true, ↓DL.dAddX, ↓DL.dMulX, ↓DL.dIxX, ↓DL.wSlX, ↓DL.dSlX, ↓DL.wSlL2, ↓DL.withL_rl, ↓DL.lsOf, ↓DL.wDerL, ↓DL.wFz, ↓DL.wFzR, ↓DL.frzD, ↓DL.wSide, ↓DL.wCatX, ↓DL.dEqA, ↓DL.scalEq, ↓DL.eqB, ↓DL.iLq, ↓DL.iSg, ↓DL.iEn, ↓DL.wM1, ↓DL.isStr, ↓DL.dJoin, ↓DL.dStrip, ↓DL.wSplit, ↓DL.dIntX, ↓DL.dInF, ↓DL.dInS, ↓DL.seqOf, ↓DL.wPar3, ↓DL.wFld, ↓DL.fldD, ↓DL.wSetF, ↓DL.setFD, ↓DL.wAugF, ↓DL.wMeth, ↓DL.recvD, ↓DL.wMake, ↓DL.fillP, ↓DL.wAsg2, ↓DL.gFldD, ↓DL.gStD, ↓DL.starV, ↓DL.gCs, ↓DL.gNl, ↓DL.gTp, Nat.add_zero, List.append_nil, List.zipWith_nil_left, List.zipWith_cons_cons, List.getD_cons_zero, ↓DL.wYes, reduceCtorEq, ↓DL.dEqX, ↓DL.dInD, DL.dataS_rl, DL.dataS_tup, DL.dataS_int, DL.dataS_str, DL.dataS_non, DL.dataD_nil, DL.dataD_ti, DL.dataD_li, ↓DL.isL2, ↓DL.dCountX, ↓DL.dIndexX, Option.isSome_some, ↓DL.dStrX]
        simpa using h
      · subst ha
        simp only [↓DL.wSeq, ↓DL.wSlT, ↓DL.wNo, ↓DL.wPart, ↓DL.dSlT, ↓DL.dCat, ↓DL.dListT, ↓DL.wFor, ↓DL.iR1, ↓DL.iR2, ↓DL.iTp, ↓DL.iLs, ↓DL.iNw, ↓DL.iLn, ↓DL.wNext, ↓DL.wIf, ↓DL.wRet, ↓DL.wRetN, ↓DL.wDrop, ↓DL.wAsg, ↓DL.gNm, ↓DL.wPar, ↓DL.wVar, ↓DL.wC, ↓DL.wOp, ↓DL.wUn, ↓DL.wTst, ↓DL.wChain, ↓DL.wAnd, ↓DL.wOr, ↓DL.wNot, ↓DL.wAndV, ↓DL.wOrV, ↓DL.wNotV, ↓DL.wIfE, ↓DL.wNil, ↓DL.wCons, ↓DL.wTup, ↓DL.wLst, ↓DL.wNew, ↓DL.wDer, ↓DL.wVL, ↓DL.wVLL, ↓DL.wALL, ↓DL.wCall, ↓DL.wIsa, ↓DL.wRaise, ↓DL.isB, ↓DL.dI0, ↓DL.dI, ↓DL.dU, ↓DL.dLen, ↓DL.dIx, ↓DL.gSubD, ↓DL.setD, ↓DL.wBM, ↓DL.isL, ↓DL.onL, ↓DL.dPopAt, ↓DL.dAppend, ↓DL.wIxV, ↓DL.wEqVL, ↓DL.wEqL, ↓DL.dEqS, ↓DL.dNeS, ↓DL.startD, List.map_cons, List.map_nil, List.length_cons, List.length_nil, List.cons_append, List.nil_append, List.replicate_succ, List.replicate_zero, List.getElem?_cons_zero, List.getElem?_cons_succ, List.set_cons_zero, List.set_cons_succ, Nat.reduceAdd, Nat.reduceSub, Nat.sub_self, ↓DL.kindD, ↓DL.dIsN, ↓DL.dNotN, ↓DL.isaB, String.reduceBEq, Bool.or_false, Bool.false_or, Bool.true_or, Bool.or_true, Bool.and_true, Bool.and_false, Bool.true_and, Bool.false_and, decide_true, decide_false, ↓DL.isNon, if_true, if_false, Bool.not_true, Bool.not_false, Bool.false_eq_true, reduceIte, true_and, and_true, ↓DL.dAddX, ↓DL.dMulX, ↓DL.dIxX, ↓DL.wSlX, ↓DL.dSlX, ↓DL.wSlL2, ↓DL.withL_rl, ↓DL.lsOf, ↓DL.wDerL, ↓DL.wFz, ↓DL.wFzR, ↓DL.frzD, ↓DL.wSide, ↓DL.wCatX, ↓DL.dEqA, ↓DL.scalEq, ↓DL.eqB, ↓DL.iLq, ↓DL.iSg, ↓DL.iEn, ↓DL.wM1, ↓DL.isStr, ↓DL.dJoin, ↓DL.dStrip, ↓DL.wSplit, ↓DL.dIntX, ↓DL.dInF, ↓DL.dInS, ↓DL.seqOf, ↓DL.wPar3, ↓DL.wFld, ↓DL.fldD, ↓DL.wSetF, ↓DL.setFD, ↓DL.wAugF, ↓DL.wMeth, ↓DL.recvD, ↓DL.wMake, ↓DL.fillP, ↓DL.wAsg2, ↓DL.gFldD, ↓DL.gStD, ↓DL.starV, ↓DL.gCs, ↓DL.gNl, ↓DL.gTp, Nat.add_zero, List.append_nil, List.zipWith_nil_left, List.zipWith_cons_cons, List.getD_cons_zero, ↓DL.wYes, reduceCtorEq, ↓DL.dEqX, ↓DL.dInD, DL.dataS_rl, DL.dataS_tup, DL.dataS_int, DL.dataS_str, DL.dataS_non, DL.dataD_nil, DL.dataD_ti, DL.dataD_li, ↓DL.isL2, ↓DL.dCountX, ↓DL.dIndexX, Option.isSome_some, ↓DL.dStrX]
        simpa using h
      · rename_i ys
        obtain ⟨xs, rfl, el, bl, ha⟩ := ha
        simp only [↓DL.wSeq, ↓DL.wSlT, ↓DL.wNo, ↓DL.wPart, ↓DL.dSlT, ↓DL.dCat, ↓DL.dListT, ↓DL.wFor, ↓DL.iR1, ↓DL.iR2, ↓DL.iTp, ↓DL.iLs, ↓DL.iNw, ↓DL.iLn, ↓DL.wNext, ↓DL.wIf, ↓DL.wRet, ↓DL.wRetN, ↓DL.wDrop, ↓DL.wAsg, ↓DL.gNm, ↓DL.wPar, ↓DL.wVar, ↓DL.wC, ↓DL.wOp, ↓DL.wUn, ↓DL.wTst, ↓DL.wChain, ↓DL.wAnd, ↓DL.wOr, ↓DL.wNot, ↓DL.wAndV, ↓DL.wOrV, ↓DL.wNotV, ↓DL.wIfE, ↓DL.wNil, ↓DL.wCons, ↓DL.wTup, ↓DL.wLst, ↓DL.wNew, ↓DL.wDer, ↓DL.wVL, ↓DL.wVLL, ↓DL.wALL, ↓DL.wCall, ↓DL.wIsa, ↓DL.wRaise, ↓DL.isB, ↓DL.dI0, ↓DL.dI, ↓DL.dU, ↓DL.dLen, ↓DL.dIx, ↓DL.gSubD, ↓DL.setD, ↓DL.wBM, ↓DL.isL, ↓DL.onL, ↓DL.dPopAt, ↓DL.dAppend, ↓DL.wIxV, ↓DL.wEqVL, ↓DL.wEqL, ↓DL.dEqS, ↓DL.dNeS, ↓DL.startD, List.map_cons, List.map_nil, List.length_cons, List.length_nil, List.cons_append, List.nil_append, List.replicate_succ, List.replicate_zero, List.getElem?_cons_zero, List.getElem?_cons_succ, List.set_cons_zero, List.set_cons_succ, Nat.reduceAdd, Nat.reduceSub, Nat.sub_self, ↓DL.kindD, ↓DL.dIsN, ↓DL.dNotN, ↓DL.isaB, String.reduceBEq, Bool.or_false, Bool.false_or, Bool.true_or, Bool.or_true, Bool.and_true, Bool.and_false, Bool.true_and, Bool.false_and, decide_true, decide_false, ↓DL.isNon, if_true, if_false, Bool.not_true, Bool.not_false, Bool.false_eq_true, reduceIte, true_and, and_true, ↓DL.dAddX, ↓DL.dMulX, ↓DL.dIxX, ↓DL.wSlX, ↓DL.dSlX, ↓DL.wSlL2, ↓DL.withL_rl, ↓DL.lsOf, ↓DL.wDerL, ↓DL.wFz, ↓DL.wFzR, ↓DL.frzD, ↓DL.wSide, ↓DL.wCatX, ↓DL.dEqA, ↓DL.scalEq, ↓DL.eqB, ↓DL.iLq, ↓DL.iSg, ↓DL.iEn, ↓DL.wM1, ↓DL.isStr, ↓DL.dJoin, ↓DL.dStrip, ↓DL.wSplit, ↓DL.dIntX, ↓DL.dInF, ↓DL.dInS, ↓DL.seqOf, ↓DL.wPar3, ↓DL.wFld, ↓DL.fldD, ↓DL.wSetF, ↓DL.setFD, ↓DL.wAugF, ↓DL.wMeth, ↓DL.recvD, ↓DL.wMake, ↓DL.fillP, ↓DL.wAsg2, ↓DL.gFldD, ↓DL.gStD, ↓DL.starV, ↓DL.gCs, ↓DL.gNl, ↓DL.gTp, Nat.add_zero, List.append_nil, List.zipWith_nil_left, List.zipWith_cons_cons, List.getD_cons_zero, ↓DL.wYes, reduceCtorEq, ↓DL.dEqX, ↓DL.dInD, DL.dataS_rl, DL.dataS_tup, DL.dataS_int, DL.dataS_str, DL.dataS_non, DL.dataD_nil, DL.dataD_ti, DL.dataD_li, ↓DL.isL2, ↓DL.dCountX, ↓DL.dIndexX, Option.isSome_some, ↓DL.dStrX]
        have e0 : decide ((xs.length : Int) = (ys.length : Int)) = true := decide_eq_true (by omega)
        rw [e0]
        simp only [↓DL.wSeq, ↓DL.wSlT, ↓DL.wNo, ↓DL.wPart, ↓DL.dSlT, ↓DL.dCat, ↓DL.dListT, ↓DL.wFor, ↓DL.iR1, ↓DL.iR2, ↓DL.iTp, ↓DL.iLs, ↓DL.iNw, ↓DL.iLn, ↓DL.wNext, ↓DL.wIf, ↓DL.wRet, ↓DL.wRetN, ↓DL.wDrop, ↓DL.wAsg, ↓DL.gNm, ↓DL.wPar, ↓DL.wVar, ↓DL.wC, ↓DL.wOp, ↓DL.wUn, ↓DL.wTst, ↓DL.wChain, ↓DL.wAnd, ↓DL.wOr, ↓DL.wNot, ↓DL.wAndV, ↓DL.wOrV, ↓DL.wNotV, ↓DL.wIfE, ↓DL.wNil, ↓DL.wCons, ↓DL.wTup, ↓DL.wLst, ↓DL.wNew, ↓DL.wDer, ↓DL.wVL, ↓DL.wVLL, ↓DL.wALL, ↓DL.wCall, ↓DL.wIsa, ↓DL.wRaise, ↓DL.isB, ↓DL.dI0, ↓DL.dI, ↓DL.dU, ↓DL.dLen, ↓DL.dIx, ↓DL.gSubD, ↓DL.setD, ↓DL.wBM, ↓DL.isL, ↓DL.onL, ↓DL.dPopAt, ↓DL.dAppend, ↓DL.wIxV, ↓DL.wEqVL, ↓DL.wEqL, ↓DL.dEqS, ↓DL.dNeS, ↓DL.startD, List.map_cons, List.map_nil, List.length_cons, List.length_nil, List.cons_append, List.nil_append, List.replicate_succ, List.replicate_zero, List.getElem?_cons_zero, List.getElem?_cons_succ, List.set_cons_zero, List.set_cons_succ, Nat.reduceAdd, Nat.reduceSub, Nat.sub_self, ↓DL.kindD, ↓DL.dIsN, ↓DL.dNotN, ↓DL.isaB, String.reduceBEq, Bool.or_false, Bool.false_or, Bool.true_or, Bool.or_true, Bool.and_true, Bool.and_false, Bool.true_and, Bool.false_and, decide_true, decide_false, ↓DL.isNon, if_true, if_false, Bool.not_true, Bool.not_false, Bool.false_eq_true, reduceIte, true_and, and_true, ↓DL.dAddX, ↓DL.dMulX, ↓DL.dIxX, ↓DL.wSlX, ↓DL.dSlX, ↓DL.wSlL2, ↓DL.withL_rl, ↓DL.lsOf, ↓DL.wDerL, ↓DL.wFz, ↓DL.wFzR, ↓DL.frzD, ↓DL.wSide, ↓DL.wCatX, ↓DL.dEqA, ↓DL.scalEq, ↓DL.eqB, ↓DL.iLq, ↓DL.iSg, ↓DL.iEn, ↓DL.wM1, ↓DL.isStr, ↓DL.dJoin, ↓DL.dStrip, ↓DL.wSplit, ↓DL.dIntX, ↓DL.dInF, ↓DL.dInS, ↓DL.seqOf, ↓DL.wPar3, ↓DL.wFld, ↓DL.fldD, ↓DL.wSetF, ↓DL.setFD, ↓DL.wAugF, ↓DL.wMeth, ↓DL.recvD, ↓DL.wMake, ↓DL.fillP, ↓DL.wAsg2, ↓DL.gFldD, ↓DL.gStD, ↓DL.starV, ↓DL.gCs, ↓DL.gNl, ↓DL.gTp, Nat.add_zero, List.append_nil, List.zipWith_nil_left, List.zipWith_cons_cons, List.getD_cons_zero, ↓DL.wYes, reduceCtorEq, ↓DL.dEqX, ↓DL.dInD, DL.dataS_rl, DL.dataS_tup, DL.dataS_int, DL.dataS_str, DL.dataS_non, DL.dataD_nil, DL.dataD_ti, DL.dataD_li, ↓DL.isL2, ↓DL.dCountX, ↓DL.dIndexX, Option.isSome_some, ↓DL.dStrX]
        refine ⟨by omega, ?_⟩
        refine forW_ind (fun ds σ S' => ∃ (i m : Nat) (c : Option D), ds = rngD i m ∧ i + m = ys.length ∧ σ = [some (.tup xs), some (.tup ys), c] ∧ S' = S) ?_ ?_ ⟨0, ys.length, none, by simp, by omega, rfl, rfl⟩
        · rintro σ S' ⟨i, m, c, -, -, -, rfl⟩
          exact ⟨True.intro, h⟩
        · rintro d ds σ S' ⟨i, m, c, e, hm, rfl, rfl⟩ nx
          cases m with
          | zero => cases e
          | succ m =>
            rw [rngD_cons] at e
            cases e
            have hi : i < xs.length := by omega
            have hj : i < ys.length := by omega
            simp only [↓DL.wSeq, ↓DL.wSlT, ↓DL.wNo, ↓DL.wPart, ↓DL.dSlT, ↓DL.dCat, ↓DL.dListT, ↓DL.wFor, ↓DL.iR1, ↓DL.iR2, ↓DL.iTp, ↓DL.iLs, ↓DL.iNw, ↓DL.iLn, ↓DL.wNext, ↓DL.wIf, ↓DL.wRet, ↓DL.wRetN, ↓DL.wDrop, ↓DL.wAsg, ↓DL.gNm, ↓DL.wPar, ↓DL.wVar, ↓DL.wC, ↓DL.wOp, ↓DL.wUn, ↓DL.wTst, ↓DL.wChain, ↓DL.wAnd, ↓DL.wOr, ↓DL.wNot, ↓DL.wAndV, ↓DL.wOrV, ↓DL.wNotV, ↓DL.wIfE, ↓DL.wNil, ↓DL.wCons, ↓DL.wTup, ↓DL.wLst, ↓DL.wNew, ↓DL.wDer, ↓DL.wVL, ↓DL.wVLL, ↓DL.wALL, ↓DL.wCall, ↓DL.wIsa, ↓DL.wRaise, ↓DL.isB, ↓DL.dI0, ↓DL.dI, ↓DL.dU, ↓DL.dLen, ↓DL.dIx, ↓DL.gSubD, ↓DL.setD, ↓DL.wBM, ↓DL.isL, ↓DL.onL, ↓DL.dPopAt, ↓DL.dAppend, ↓DL.wIxV, ↓DL.wEqVL, ↓DL.wEqL, ↓DL.dEqS, ↓DL.dNeS, ↓DL.startD, List.map_cons, List.map_nil, List.length_cons, List.length_nil, List.cons_append, List.nil_append, List.replicate_succ, List.replicate_zero, List.getElem?_cons_zero, List.getElem?_cons_succ, List.set_cons_zero, List.set_cons_succ, Nat.reduceAdd, Nat.reduceSub, Nat.sub_self, ↓DL.kindD, ↓DL.dIsN, ↓DL.dNotN, ↓DL.isaB, String.reduceBEq, Bool.or_false, Bool.false_or, Bool.true_or, Bool.or_true, Bool.and_true, Bool.and_false, Bool.true_and, Bool.false_and, decide_true, decide_false, ↓DL.isNon, if_true, if_false, Bool.not_true, Bool.not_false, Bool.false_eq_true, reduceIte, true_and, and_true, ↓DL.dAddX, ↓DL.dMulX, ↓DL.dIxX, ↓DL.wSlX, ↓DL.dSlX, ↓DL.wSlL2, ↓DL.withL_rl, ↓DL.lsOf, ↓DL.wDerL, ↓DL.wFz, ↓DL.wFzR, ↓DL.frzD, ↓DL.wSide, ↓DL.wCatX, ↓DL.dEqA, ↓DL.scalEq, ↓DL.eqB, ↓DL.iLq, ↓DL.iSg, ↓DL.iEn, ↓DL.wM1, ↓DL.isStr, ↓DL.dJoin, ↓DL.dStrip, ↓DL.wSplit, ↓DL.dIntX, ↓DL.dInF, ↓DL.dInS, ↓DL.seqOf, ↓DL.wPar3, ↓DL.wFld, ↓DL.fldD, ↓DL.wSetF, ↓DL.setFD, ↓DL.wAugF, ↓DL.wMeth, ↓DL.recvD, ↓DL.wMake, ↓DL.fillP, ↓DL.wAsg2, ↓DL.gFldD, ↓DL.gStD, ↓DL.starV, ↓DL.gCs, ↓DL.gNl, ↓DL.gTp, Nat.add_zero, List.append_nil, List.zipWith_nil_left, List.zipWith_cons_cons, List.getD_cons_zero, ↓DL.wYes, reduceCtorEq, ↓DL.dEqX, ↓DL.dInD, DL.dataS_rl, DL.dataS_tup, DL.dataS_int, DL.dataS_str, DL.dataS_non, DL.dataD_nil, DL.dataD_ti, DL.dataD_li, ↓DL.isL2, ↓DL.dCountX, ↓DL.dIndexX, Option.isSome_some, ↓DL.dStrX]
            rw [atI_ofN, atI_ofN, List.getElem?_eq_getElem hi, List.getElem?_eq_getElem hj]
            exact ⟨ha i _ _ (List.getElem?_eq_getElem hi) (List.getElem?_eq_getElem hj), nx _ _ ⟨i + 1, m, _, by simp, by omega, rfl, rfl⟩⟩
      · rename_i b
        obtain ⟨xs, ys, e1, e2, el, bl, ha⟩ := ha
        rcases lsOf_cases e2 with z | ⟨b', z, eb⟩
        · cases z
        cases z
        have e0 : decide ((xs.length : Int) = (ys.length : Int)) = true := decide_eq_true (by omega)
        rcases lsOf_cases e1 with rfl | ⟨a, rfl, ea⟩
        · simp only [↓DL.wSeq, ↓DL.wSlT, ↓DL.wNo, ↓DL.wPart, ↓DL.dSlT, ↓DL.dCat, ↓DL.dListT, ↓DL.wFor, ↓DL.iR1, ↓DL.iR2, ↓DL.iTp, ↓DL.iLs, ↓DL.iNw, ↓DL.iLn, ↓DL.wNext, ↓DL.wIf, ↓DL.wRet, ↓DL.wRetN, ↓DL.wDrop, ↓DL.wAsg, ↓DL.gNm, ↓DL.wPar, ↓DL.wVar, ↓DL.wC, ↓DL.wOp, ↓DL.wUn, ↓DL.wTst, ↓DL.wChain, ↓DL.wAnd, ↓DL.wOr, ↓DL.wNot, ↓DL.wAndV, ↓DL.wOrV, ↓DL.wNotV, ↓DL.wIfE, ↓DL.wNil, ↓DL.wCons, ↓DL.wTup, ↓DL.wLst, ↓DL.wNew, ↓DL.wDer, ↓DL.wVL, ↓DL.wVLL, ↓DL.wALL, ↓DL.wCall, ↓DL.wIsa, ↓DL.wRaise, ↓DL.isB, ↓DL.dI0, ↓DL.dI, ↓DL.dU, ↓DL.dLen, ↓DL.dIx, ↓DL.gSubD, ↓DL.setD, ↓DL.wBM, ↓DL.isL, ↓DL.onL, ↓DL.dPopAt, ↓DL.dAppend, ↓DL.wIxV, ↓DL.wEqVL, ↓DL.wEqL, ↓DL.dEqS, ↓DL.dNeS, ↓DL.startD, List.map_cons, List.map_nil, List.length_cons, List.length_nil, List.cons_append, List.nil_append, List.replicate_succ, List.replicate_zero, List.getElem?_cons_zero, List.getElem?_cons_succ, List.set_cons_zero, List.set_cons_succ, Nat.reduceAdd, Nat.reduceSub, Nat.sub_self, ↓DL.kindD, ↓DL.dIsN, ↓DL.dNotN, ↓DL.isaB, String.reduceBEq, Bool.or_false, Bool.false_or, Bool.true_or, Bool.or_true, Bool.and_true, Bool.and_false, Bool.true_and, Bool.false_and, decide_true, decide_false, ↓DL.isNon, if_true, if_false, Bool.not_true, Bool.not_false, Bool.false_eq_true, reduceIte, true_and, and_true, ↓DL.dAddX, ↓DL.dMulX, ↓DL.dIxX, ↓DL.wSlX, ↓DL.dSlX, ↓DL.wSlL2, ↓DL.withL_rl, ↓DL.lsOf, ↓DL.wDerL, ↓DL.wFz, ↓DL.wFzR, ↓DL.frzD, ↓DL.wSide, ↓DL.wCatX, ↓DL.dEqA, ↓DL.scalEq, ↓DL.eqB, ↓DL.iLq, ↓DL.iSg, ↓DL.iEn, ↓DL.wM1, ↓DL.isStr, ↓DL.dJoin, ↓DL.dStrip, ↓DL.wSplit, ↓DL.dIntX, ↓DL.dInF, ↓DL.dInS, ↓DL.seqOf, ↓DL.wPar3, ↓DL.wFld, ↓DL.fldD, ↓DL.wSetF, ↓DL.setFD, ↓DL.wAugF, ↓DL.wMeth, ↓DL.recvD, ↓DL.wMake, ↓DL.fillP, ↓DL.wAsg2, ↓DL.gFldD, ↓DL.gStD, ↓DL.starV, ↓DL.gCs, ↓DL.gNl, ↓DL.gTp, Nat.add_zero, List.append_nil, List.zipWith_nil_left, List.zipWith_cons_cons, List.getD_cons_zero, ↓DL.wYes, reduceCtorEq, ↓DL.dEqX, ↓DL.dInD, DL.dataS_rl, DL.dataS_tup, DL.dataS_int, DL.dataS_str, DL.dataS_non, DL.dataD_nil, DL.dataD_ti, DL.dataD_li, ↓DL.isL2, ↓DL.dCountX, ↓DL.dIndexX, Option.isSome_some, ↓DL.dStrX, eb]
          rw [e0]
          simp only [↓DL.wSeq, ↓DL.wSlT, ↓DL.wNo, ↓DL.wPart, ↓DL.dSlT, ↓DL.dCat, ↓DL.dListT, ↓DL.wFor, ↓DL.iR1, ↓DL.iR2, ↓DL.iTp, ↓DL.iLs, ↓DL.iNw, ↓DL.iLn, ↓DL.wNext, ↓DL.wIf, ↓DL.wRet, ↓DL.wRetN, ↓DL.wDrop, ↓DL.wAsg, ↓DL.gNm, ↓DL.wPar, ↓DL.wVar, ↓DL.wC, ↓DL.wOp, ↓DL.wUn, ↓DL.wTst, ↓DL.wChain, ↓DL.wAnd, ↓DL.wOr, ↓DL.wNot, ↓DL.wAndV, ↓DL.wOrV, ↓DL.wNotV, ↓DL.wIfE, ↓DL.wNil, ↓DL.wCons, ↓DL.wTup, ↓DL.wLst, ↓DL.wNew, ↓DL.wDer, ↓DL.wVL, ↓DL.wVLL, ↓DL.wALL, ↓DL.wCall, ↓DL.wIsa, ↓DL.wRaise, ↓DL.isB, ↓DL.dI0, ↓DL.dI, ↓DL.dU, ↓DL.dLen, ↓DL.dIx, ↓DL.gSubD, ↓DL.setD, ↓DL.wBM, ↓DL.isL, ↓DL.onL, ↓DL.dPopAt, ↓DL.dAppend, ↓DL.wIxV, ↓DL.wEqVL, ↓DL.wEqL, ↓DL.dEqS, ↓DL.dNeS, ↓DL.startD, List.map_cons, List.map_nil, List.length_cons, List.length_nil, List.cons_append, List.nil_append, List.replicate_succ, List.replicate_zero, List.getElem?_cons_zero, List.getElem?_cons_succ, List.set_cons_zero, List.set_cons_succ, Nat.reduceAdd, Nat.reduceSub, Nat.sub_self, ↓DL.kindD, ↓DL.dIsN, ↓DL.dNotN, ↓DL.isaB, String.reduceBEq, Bool.or_false, Bool.false_or, Bool.true_or, Bool.or_true, Bool.and_true, Bool.and_false, Bool.true_and, Bool.false_and, decide_true, decide_false, ↓DL.isNon, if_true, if_false, Bool.not_true, Bool.not_false, Bool.false_eq_true, reduceIte, true_and, and_true, ↓DL.dAddX, ↓DL.dMulX, ↓DL.dIxX, ↓DL.wSlX, ↓DL.dSlX, ↓DL.wSlL2, ↓DL.withL_rl, ↓DL.lsOf, ↓DL.wDerL, ↓DL.wFz, ↓DL.wFzR, ↓DL.frzD, ↓DL.wSide, ↓DL.wCatX, ↓DL.dEqA, ↓DL.scalEq, ↓DL.eqB, ↓DL.iLq, ↓DL.iSg, ↓DL.iEn, ↓DL.wM1, ↓DL.isStr, ↓DL.dJoin, ↓DL.dStrip, ↓DL.wSplit, ↓DL.dIntX, ↓DL.dInF, ↓DL.dInS, ↓DL.seqOf, ↓DL.wPar3, ↓DL.wFld, ↓DL.fldD, ↓DL.wSetF, ↓DL.setFD, ↓DL.wAugF, ↓DL.wMeth, ↓DL.recvD, ↓DL.wMake, ↓DL.fillP, ↓DL.wAsg2, ↓DL.gFldD, ↓DL.gStD, ↓DL.starV, ↓DL.gCs, ↓DL.gNl, ↓DL.gTp, Nat.add_zero, List.append_nil, List.zipWith_nil_left, List.zipWith_cons_cons, List.getD_cons_zero, ↓DL.wYes, reduceCtorEq, ↓DL.dEqX, ↓DL.dInD, DL.dataS_rl, DL.dataS_tup, DL.dataS_int, DL.dataS_str, DL.dataS_non, DL.dataD_nil, DL.dataD_ti, DL.dataD_li, ↓DL.isL2, ↓DL.dCountX, ↓DL.dIndexX, Option.isSome_some, ↓DL.dStrX, eb]
          refine ⟨by omega, ?_⟩
          refine forW_ind (fun ds σ S' => ∃ (i m : Nat) (c : Option D), ds = rngD i m ∧ i + m = ys.length ∧ σ = [some (.rl xs), some (.ref b), c] ∧ S' = S) ?_ ?_ ⟨0, ys.length, none, by simp, by omega, rfl, rfl⟩
          · rintro σ S' ⟨i, m, c, -, -, -, rfl⟩
            exact ⟨True.intro, h⟩
          · rintro d ds σ S' ⟨i, m, c, e, hm, rfl, rfl⟩ nx
            cases m with
            | zero => cases e
            | succ m =>
              rw [rngD_cons] at e
              cases e
              have hi : i < xs.length := by omega
              have hj : i < ys.length := by omega
              simp only [↓DL.wSeq, ↓DL.wSlT, ↓DL.wNo, ↓DL.wPart, ↓DL.dSlT, ↓DL.dCat, ↓DL.dListT, ↓DL.wFor, ↓DL.iR1, ↓DL.iR2, ↓DL.iTp, ↓DL.iLs, ↓DL.iNw, ↓DL.iLn, ↓DL.wNext, ↓DL.wIf, ↓DL.wRet, ↓DL.wRetN, ↓DL.wDrop, ↓DL.wAsg, ↓DL.gNm, ↓DL.wPar, ↓DL.wVar, ↓DL.wC, ↓DL.wOp, ↓DL.wUn, ↓DL.wTst, ↓DL.wChain, ↓DL.wAnd, ↓DL.wOr, ↓DL.wNot, ↓DL.wAndV, ↓DL.wOrV, ↓DL.wNotV, ↓DL.wIfE, ↓DL.wNil, ↓DL.wCons, ↓DL.wTup, ↓DL.wLst, ↓DL.wNew, ↓DL.wDer, ↓DL.wVL, ↓DL.wVLL, ↓DL.wALL, ↓DL.wCall, ↓DL.wIsa, ↓DL.wRaise, ↓DL.isB, ↓DL.dI0, ↓DL.dI, ↓DL.dU, ↓DL.dLen, ↓DL.dIx, ↓DL.gSubD, ↓DL.setD, ↓DL.wBM, ↓DL.isL, ↓DL.onL, ↓DL.dPopAt, ↓DL.dAppend, ↓DL.wIxV, ↓DL.wEqVL, ↓DL.wEqL, ↓DL.dEqS, ↓DL.dNeS, ↓DL.startD, List.map_cons, List.map_nil, List.length_cons, List.length_nil, List.cons_append, List.nil_append, List.replicate_succ, List.replicate_zero, List.getElem?_cons_zero, List.getElem?_cons_succ, List.set_cons_zero, List.set_cons_succ, Nat.reduceAdd, Nat.reduceSub, Nat.sub_self, ↓DL.kindD, ↓DL.dIsN, ↓DL.dNotN, ↓DL.isaB, String.reduceBEq, Bool.or_false, Bool.false_or, Bool.true_or, Bool.or_true, Bool.and_true, Bool.and_false, Bool.true_and, Bool.false_and, decide_true, decide_false, ↓DL.isNon, if_true, if_false, Bool.not_true, Bool.not_false, Bool.false_eq_true, reduceIte, true_and, and_true, ↓DL.dAddX, ↓DL.dMulX, ↓DL.dIxX, ↓DL.wSlX, ↓DL.dSlX, ↓DL.wSlL2, ↓DL.withL_rl, ↓DL.lsOf, ↓DL.wDerL, ↓DL.wFz, ↓DL.wFzR, ↓DL.frzD, ↓DL.wSide, ↓DL.wCatX, ↓DL.dEqA, ↓DL.scalEq, ↓DL.eqB, ↓DL.iLq, ↓DL.iSg, ↓DL.iEn, ↓DL.wM1, ↓DL.isStr, ↓DL.dJoin, ↓DL.dStrip, ↓DL.wSplit, ↓DL.dIntX, ↓DL.dInF, ↓DL.dInS, ↓DL.seqOf, ↓DL.wPar3, ↓DL.wFld, ↓DL.fldD, ↓DL.wSetF, ↓DL.setFD, ↓DL.wAugF, ↓DL.wMeth, ↓DL.recvD, ↓DL.wMake, ↓DL.fillP, ↓DL.wAsg2, ↓DL.gFldD, ↓DL.gStD, ↓DL.starV, ↓DL.gCs, ↓DL.gNl, ↓DL.gTp, Nat.add_zero, List.append_nil, List.zipWith_nil_left, List.zipWith_cons_cons, List.getD_cons_zero, ↓DL.wYes, reduceCtorEq, ↓DL.dEqX, ↓DL.dInD, DL.dataS_rl, DL.dataS_tup, DL.dataS_int, DL.dataS_str, DL.dataS_non, DL.dataD_nil, DL.dataD_ti, DL.dataD_li, ↓DL.isL2, ↓DL.dCountX, ↓DL.dIndexX, Option.isSome_some, ↓DL.dStrX, eb]
              rw [atI_ofN, atI_ofN, List.getElem?_eq_getElem hi, List.getElem?_eq_getElem hj]
              exact ⟨ha i _ _ (List.getElem?_eq_getElem hi) (List.getElem?_eq_getElem hj), nx _ _ ⟨i + 1, m, _, by simp, by omega, rfl, rfl⟩⟩
        · simp only [↓DL.wSeq, ↓DL.wSlT, ↓DL.wNo, ↓DL.wPart, ↓DL.dSlT, ↓DL.dCat, ↓DL.dListT, ↓DL.wFor, ↓DL.iR1, ↓DL.iR2, ↓DL.iTp, ↓DL.iLs, ↓DL.iNw, ↓DL.iLn, ↓DL.wNext, ↓DL.wIf, ↓DL.wRet, ↓DL.wRetN, ↓DL.wDrop, ↓DL.wAsg, ↓DL.gNm, ↓DL.wPar, ↓DL.wVar, ↓DL.wC, ↓DL.wOp, ↓DL.wUn, ↓DL.wTst, ↓DL.wChain, ↓DL.wAnd, ↓DL.wOr, ↓DL.wNot, ↓DL.wAndV, ↓DL.wOrV, ↓DL.wNotV, ↓DL.wIfE, ↓DL.wNil, ↓DL.wCons, ↓DL.wTup, ↓DL.wLst, ↓DL.wNew, ↓DL.wDer, ↓DL.wVL, ↓DL.wVLL, ↓DL.wALL, ↓DL.wCall, ↓DL.wIsa, ↓DL.wRaise, ↓DL.isB, ↓DL.dI0, ↓DL.dI, ↓DL.dU, ↓DL.dLen, ↓DL.dIx, ↓DL.gSubD, ↓DL.setD, ↓DL.wBM, ↓DL.isL, ↓DL.onL, ↓DL.dPopAt, ↓DL.dAppend, ↓DL.wIxV, ↓DL.wEqVL, ↓DL.wEqL, ↓DL.dEqS, ↓DL.dNeS, ↓DL.startD, List.map_cons, List.map_nil, List.length_cons, List.length_nil, List.cons_append, List.nil_append, List.replicate_succ, List.replicate_zero, List.getElem?_cons_zero, List.getElem?_cons_succ, List.set_cons_zero, List.set_cons_succ, Nat.reduceAdd, Nat.reduceSub, Nat.sub_self, ↓DL.kindD, ↓DL.dIsN, ↓DL.dNotN, ↓DL.isaB, String.reduceBEq, Bool.or_false, Bool.false_or, Bool.true_or, Bool.or_true, Bool.and_true, Bool.and_false, Bool.true_and, Bool.false_and, decide_true, decide_false, ↓DL.isNon, if_true, if_false, Bool.not_true, Bool.not_false, Bool.false_eq_true, reduceIte, true_and, and_true, ↓DL.dAddX, ↓DL.dMulX, ↓DL.dIxX, ↓DL.wSlX, ↓DL.dSlX, ↓DL.wSlL2, ↓DL.withL_rl, ↓DL.lsOf, ↓DL.wDerL, ↓DL.wFz, ↓DL.wFzR, ↓DL.frzD, ↓DL.wSide, ↓DL.wCatX, ↓DL.dEqA, ↓DL.scalEq, ↓DL.eqB, ↓DL.iLq, ↓DL.iSg, ↓DL.iEn, ↓DL.wM1, ↓DL.isStr, ↓DL.dJoin, ↓DL.dStrip, ↓DL.wSplit, ↓DL.dIntX, ↓DL.dInF, ↓DL.dInS, ↓DL.seqOf, ↓DL.wPar3, ↓DL.wFld, ↓DL.fldD, ↓DL.wSetF, ↓DL.setFD, ↓DL.wAugF, ↓DL.wMeth, ↓DL.recvD, ↓DL.wMake, ↓DL.fillP, ↓DL.wAsg2, ↓DL.gFldD, ↓DL.gStD, ↓DL.starV, ↓DL.gCs, ↓DL.gNl, ↓DL.gTp, Nat.add_zero, List.append_nil, List.zipWith_nil_left, List.zipWith_cons_cons, List.getD_cons_zero, ↓DL.wYes, reduceCtorEq, ↓DL.dEqX, ↓DL.dInD, DL.dataS_rl, DL.dataS_tup, DL.dataS_int, DL.dataS_str, DL.dataS_non, DL.dataD_nil, DL.dataD_ti, DL.dataD_li, ↓DL.isL2, ↓DL.dCountX, ↓DL.dIndexX, Option.isSome_some, ↓DL.dStrX, ea, eb]
          rw [e0]
          simp only [↓DL.wSeq, ↓DL.wSlT, ↓DL.wNo, ↓DL.wPart, ↓DL.dSlT, ↓DL.dCat, ↓DL.dListT, ↓DL.wFor, ↓DL.iR1, ↓DL.iR2, ↓DL.iTp, ↓DL.iLs, ↓DL.iNw, ↓DL.iLn, ↓DL.wNext, ↓DL.wIf, ↓DL.wRet, ↓DL.wRetN, ↓DL.wDrop, ↓DL.wAsg, ↓DL.gNm, ↓DL.wPar, ↓DL.wVar, ↓DL.wC, ↓DL.wOp, ↓DL.wUn, ↓DL.wTst, ↓DL.wChain, ↓DL.wAnd, ↓DL.wOr, ↓DL.wNot, ↓DL.wAndV, ↓DL.wOrV, ↓DL.wNotV, ↓DL.wIfE, ↓DL.wNil, ↓DL.wCons, ↓DL.wTup, ↓DL.wLst, ↓DL.wNew, ↓DL.wDer, ↓DL.wVL, ↓DL.wVLL, ↓DL.wALL, ↓DL.wCall, ↓DL.wIsa, ↓DL.wRaise, ↓DL.isB, ↓DL.dI0, ↓DL.dI, ↓DL.dU, ↓DL.dLen, ↓DL.dIx, ↓DL.gSubD, ↓DL.setD, ↓DL.wBM, ↓DL.isL, ↓DL.onL, ↓DL.dPopAt, ↓DL.dAppend, ↓DL.wIxV, ↓DL.wEqVL, ↓DL.wEqL, ↓DL.dEqS, ↓DL.dNeS, ↓DL.startD, List.map_cons, List.map_nil, List.length_cons, List.length_nil, List.cons_append, List.nil_append, List.replicate_succ, List.replicate_zero, List.getElem?_cons_zero, List.getElem?_cons_succ, List.set_cons_zero, List.set_cons_succ, Nat.reduceAdd, Nat.reduceSub, Nat.sub_self, ↓DL.kindD, ↓DL.dIsN, ↓DL.dNotN, ↓DL.isaB, String.reduceBEq, Bool.or_false, Bool.false_or, Bool.true_or, Bool.or_true, Bool.and_true, Bool.and_false, Bool.true_and, Bool.false_and, decide_true, decide_false, ↓DL.isNon, if_true, if_false, Bool.not_true, Bool.not_false, Bool.false_eq_true, reduceIte, true_and, and_true, ↓DL.dAddX, ↓DL.dMulX, ↓DL.dIxX, ↓DL.wSlX, ↓DL.dSlX, ↓DL.wSlL2, ↓DL.withL_rl, ↓DL.lsOf, ↓DL.wDerL, ↓DL.wFz, ↓DL.wFzR, ↓DL.frzD, ↓DL.wSide, ↓DL.wCatX, ↓DL.dEqA, ↓DL.scalEq, ↓DL.eqB, ↓DL.iLq, ↓DL.iSg, ↓DL.iEn, ↓DL.wM1, ↓DL.isStr, ↓DL.dJoin, ↓DL.dStrip, ↓DL.wSplit, ↓DL.dIntX, ↓DL.dInF, ↓DL.dInS, ↓DL.seqOf, ↓DL.wPar3, ↓DL.wFld, ↓DL.fldD, ↓DL.wSetF, ↓DL.setFD, ↓DL.wAugF, ↓DL.wMeth, ↓DL.recvD, ↓DL.wMake, ↓DL.fillP, ↓DL.wAsg2, ↓DL.gFldD, ↓DL.gStD, ↓DL.starV, ↓DL.gCs, ↓DL.gNl, ↓DL.gTp, Nat.add_zero, List.append_nil, List.zipWith_nil_left, List.zipWith_cons_cons, List.getD_cons_zero, ↓DL.wYes, reduceCtorEq, ↓DL.dEqX, ↓DL.dInD, DL.dataS_rl, DL.dataS_tup, DL.dataS_int, DL.dataS_str, DL.dataS_non, DL.dataD_nil, DL.dataD_ti, DL.dataD_li, ↓DL.isL2, ↓DL.dCountX, ↓DL.dIndexX, Option.isSome_some, ↓DL.dStrX, ea, eb]
          refine ⟨by omega, ?_⟩
          refine forW_ind (fun ds σ S' => ∃ (i m : Nat) (c : Option D), ds = rngD i m ∧ i + m = ys.length ∧ σ = [some (.ref a), some (.ref b), c] ∧ S' = S) ?_ ?_ ⟨0, ys.length, none, by simp, by omega, rfl, rfl⟩
          · rintro σ S' ⟨i, m, c, -, -, -, rfl⟩
            exact ⟨True.intro, h⟩
          · rintro d ds σ S' ⟨i, m, c, e, hm, rfl, rfl⟩ nx
            cases m with
            | zero => cases e
            | succ m =>
              rw [rngD_cons] at e
              cases e
              have hi : i < xs.length := by omega
              have hj : i < ys.length := by omega
              simp only [↓DL.wSeq, ↓DL.wSlT, ↓DL.wNo, ↓DL.wPart, ↓DL.dSlT, ↓DL.dCat, ↓DL.dListT, ↓DL.wFor, ↓DL.iR1, ↓DL.iR2, ↓DL.iTp, ↓DL.iLs, ↓DL.iNw, ↓DL.iLn, ↓DL.wNext, ↓DL.wIf, ↓DL.wRet, ↓DL.wRetN, ↓DL.wDrop, ↓DL.wAsg, ↓DL.gNm, ↓DL.wPar, ↓DL.wVar, ↓DL.wC, ↓DL.wOp, ↓DL.wUn, ↓DL.wTst, ↓DL.wChain, ↓DL.wAnd, ↓DL.wOr, ↓DL.wNot, ↓DL.wAndV, ↓DL.wOrV, ↓DL.wNotV, ↓DL.wIfE, ↓DL.wNil, ↓DL.wCons, ↓DL.wTup, ↓DL.wLst, ↓DL.wNew, ↓DL.wDer, ↓DL.wVL, ↓DL.wVLL, ↓DL.wALL, ↓DL.wCall, ↓DL.wIsa, ↓DL.wRaise, ↓DL.isB, ↓DL.dI0, ↓DL.dI, ↓DL.dU, ↓DL.dLen, ↓DL.dIx, ↓DL.gSubD, ↓DL.setD, ↓DL.wBM, ↓DL.isL, ↓DL.onL, ↓DL.dPopAt, ↓DL.dAppend, ↓DL.wIxV, ↓DL.wEqVL, ↓DL.wEqL, ↓DL.dEqS, ↓DL.dNeS, ↓DL.startD, List.map_cons, List.map_nil, List.length_cons, List.length_nil, List.cons_append, List.nil_append, List.replicate_succ, List.replicate_zero, List.getElem?_cons_zero, List.getElem?_cons_succ, List.set_cons_zero, List.set_cons_succ, Nat.reduceAdd, Nat.reduceSub, Nat.sub_self, ↓DL.kindD, ↓DL.dIsN, ↓DL.dNotN, ↓DL.isaB, String.reduceBEq, Bool.or_false, Bool.false_or, Bool.true_or, Bool.or_true, Bool.and_true, Bool.and_false, Bool.true_and, Bool.false_and, decide_true, decide_false, ↓DL.isNon, if_true, if_false, Bool.not_true, Bool.not_false, Bool.false_eq_true, reduceIte, true_and, and_true, ↓DL.dAddX, ↓DL.dMulX, ↓DL.dIxX, ↓DL.wSlX, ↓DL.dSlX, ↓DL.wSlL2, ↓DL.withL_rl, ↓DL.lsOf, ↓DL.wDerL, ↓DL.wFz, ↓DL.wFzR, ↓DL.frzD, ↓DL.wSide, ↓DL.wCatX, ↓DL.dEqA, ↓DL.scalEq, ↓DL.eqB, ↓DL.iLq, ↓DL.iSg, ↓DL.iEn, ↓DL.wM1, ↓DL.isStr, ↓DL.dJoin, ↓DL.dStrip, ↓DL.wSplit, ↓DL.dIntX, ↓DL.dInF, ↓DL.dInS, ↓DL.seqOf, ↓DL.wPar3, ↓DL.wFld, ↓DL.fldD, ↓DL.wSetF, ↓DL.setFD, ↓DL.wAugF, ↓DL.wMeth, ↓DL.recvD, ↓DL.wMake, ↓DL.fillP, ↓DL.wAsg2, ↓DL.gFldD, ↓DL.gStD, ↓DL.starV, ↓DL.gCs, ↓DL.gNl, ↓DL.gTp, Nat.add_zero, List.append_nil, List.zipWith_nil_left, List.zipWith_cons_cons, List.getD_cons_zero, ↓DL.wYes, reduceCtorEq, ↓DL.dEqX, ↓DL.dInD, DL.dataS_rl, DL.dataS_tup, DL.dataS_int, DL.dataS_str, DL.dataS_non, DL.dataD_nil, DL.dataD_ti, DL.dataD_li, ↓DL.isL2, ↓DL.dCountX, ↓DL.dIndexX, Option.isSome_some, ↓DL.dStrX, ea, eb]
              rw [atI_ofN, atI_ofN, List.getElem?_eq_getElem hi, List.getElem?_eq_getElem hj]
              exact ⟨ha i _ _ (List.getElem?_eq_getElem hi) (List.getElem?_eq_getElem hj), nx _ _ ⟨i + 1, m, _, by simp, by omega, rfl, rfl⟩⟩
      · rename_i ys
        obtain ⟨xs, e1, el, bl, ha⟩ := ha
        have e0 : decide ((xs.length : Int) = (ys.length : Int)) = true := decide_eq_true (by omega)
        rcases lsOf_cases e1 with rfl | ⟨a, rfl, ea⟩
        · simp only [↓DL.wSeq, ↓DL.wSlT, ↓DL.wNo, ↓DL.wPart, ↓DL.dSlT, ↓DL.dCat, ↓DL.dListT, ↓DL.wFor, ↓DL.iR1, ↓DL.iR2, ↓DL.iTp, ↓DL.iLs, ↓DL.iNw, ↓DL.iLn, ↓DL.wNext, ↓DL.wIf, ↓DL.wRet, ↓DL.wRetN, ↓DL.wDrop, ↓DL.wAsg, ↓DL.gNm, ↓DL.wPar, ↓DL.wVar, ↓DL.wC, ↓DL.wOp, ↓DL.wUn, ↓DL.wTst, ↓DL.wChain, ↓DL.wAnd, ↓DL.wOr, ↓DL.wNot, ↓DL.wAndV, ↓DL.wOrV, ↓DL.wNotV, ↓DL.wIfE, ↓DL.wNil, ↓DL.wCons, ↓DL.wTup, ↓DL.wLst, ↓DL.wNew, ↓DL.wDer, ↓DL.wVL, ↓DL.wVLL, ↓DL.wALL, ↓DL.wCall, ↓DL.wIsa, ↓DL.wRaise, ↓DL.isB, ↓DL.dI0, ↓DL.dI, ↓DL.dU, ↓DL.dLen, ↓DL.dIx, ↓DL.gSubD, ↓DL.setD, ↓DL.wBM, ↓DL.isL, ↓DL.onL, ↓DL.dPopAt, ↓DL.dAppend, ↓DL.wIxV, ↓DL.wEqVL, ↓DL.wEqL, ↓DL.dEqS, ↓DL.dNeS, ↓DL.startD, List.map_cons, List.map_nil, List.length_cons, List.length_nil, List.cons_append, List.nil_append, List.replicate_succ, List.replicate_zero, List.getElem?_cons_zero, List.getElem?_cons_succ, List.set_cons_zero, List.set_cons_succ, Nat.reduceAdd, Nat.reduceSub, Nat.sub_self, ↓DL.kindD, ↓DL.dIsN, ↓DL.dNotN, ↓DL.isaB, String.reduceBEq, Bool.or_false, Bool.false_or, Bool.true_or, Bool.or_true, Bool.and_true, Bool.and_false, Bool.true_and, Bool.false_and, decide_true, decide_false, ↓DL.isNon, if_true, if_false, Bool.not_true, Bool.not_false, Bool.false_eq_true, reduceIte, true_and, and_true, ↓DL.dAddX, ↓DL.dMulX, ↓DL.dIxX, ↓DL.wSlX, ↓DL.dSlX, ↓DL.wSlL2, ↓DL.withL_rl, ↓DL.lsOf, ↓DL.wDerL, ↓DL.wFz, ↓DL.wFzR, ↓DL.frzD, ↓DL.wSide, ↓DL.wCatX, ↓DL.dEqA, ↓DL.scalEq, ↓DL.eqB, ↓DL.iLq, ↓DL.iSg, ↓DL.iEn, ↓DL.wM1, ↓DL.isStr, ↓DL.dJoin, ↓DL.dStrip, ↓DL.wSplit, ↓DL.dIntX, ↓DL.dInF, ↓DL.dInS, ↓DL.seqOf, ↓DL.wPar3, ↓DL.wFld, ↓DL.fldD, ↓DL.wSetF, ↓DL.setFD, ↓DL.wAugF, ↓DL.wMeth, ↓DL.recvD, ↓DL.wMake, ↓DL.fillP, ↓DL.wAsg2, ↓DL.gFldD, ↓DL.gStD, ↓DL.starV, ↓DL.gCs, ↓DL.gNl, ↓DL.gTp, Nat.add_zero, List.append_nil, List.zipWith_nil_left, List.zipWith_cons_cons, List.getD_cons_zero, ↓DL.wYes, reduceCtorEq, ↓DL.dEqX, ↓DL.dInD, DL.dataS_rl, DL.dataS_tup, DL.dataS_int, DL.dataS_str, DL.dataS_non, DL.dataD_nil, DL.dataD_ti, DL.dataD_li, ↓DL.isL2, ↓DL.dCountX, ↓DL.dIndexX, Option.isSome_some, ↓DL.dStrX]
          rw [e0]
          simp only [↓DL.wSeq, ↓DL.wSlT, ↓DL.wNo, ↓DL.wPart, ↓DL.dSlT, ↓DL.dCat, ↓DL.dListT, ↓DL.wFor, ↓DL.iR1, ↓DL.iR2, ↓DL.iTp, ↓DL.iLs, ↓DL.iNw, ↓DL.iLn, ↓DL.wNext, ↓DL.wIf, ↓DL.wRet, ↓DL.wRetN, ↓DL.wDrop, ↓DL.wAsg, ↓DL.gNm, ↓DL.wPar, ↓DL.wVar, ↓DL.wC, ↓DL.wOp, ↓DL.wUn, ↓DL.wTst, ↓DL.wChain, ↓DL.wAnd, ↓DL.wOr, ↓DL.wNot, ↓DL.wAndV, ↓DL.wOrV, ↓DL.wNotV, ↓DL.wIfE, ↓DL.wNil, ↓DL.wCons, ↓DL.wTup, ↓DL.wLst, ↓DL.wNew, ↓DL.wDer, ↓DL.wVL, ↓DL.wVLL, ↓DL.wALL, ↓DL.wCall, ↓DL.wIsa, ↓DL.wRaise, ↓DL.isB, ↓DL.dI0, ↓DL.dI, ↓DL.dU, ↓DL.dLen, ↓DL.dIx, ↓DL.gSubD, ↓DL.setD, ↓DL.wBM, ↓DL.isL, ↓DL.onL, ↓DL.dPopAt, ↓DL.dAppend, ↓DL.wIxV, ↓DL.wEqVL, ↓DL.wEqL, ↓DL.dEqS, ↓DL.dNeS, ↓DL.startD, List.map_cons, List.map_nil, List.length_cons, List.length_nil, List.cons_append, List.nil_append, List.replicate_succ, List.replicate_zero, List.getElem?_cons_zero, List.getElem?_cons_succ, List.set_cons_zero, List.set_cons_succ, Nat.reduceAdd, Nat.reduceSub, Nat.sub_self, ↓DL.kindD, ↓DL.dIsN, ↓DL.dNotN, ↓DL.isaB, String.reduceBEq, Bool.or_false, Bool.false_or, Bool.true_or, Bool.or_true, Bool.and_true, Bool.and_false, Bool.true_and, Bool.false_and, decide_true, decide_false, ↓DL.isNon, if_true, if_false, Bool.not_true, Bool.not_false, Bool.false_eq_true, reduceIte, true_and, and_true, ↓DL.dAddX, ↓DL.dMulX, ↓DL.dIxX, ↓DL.wSlX, ↓DL.dSlX, ↓DL.wSlL2, ↓DL.withL_rl, ↓DL.lsOf, ↓DL.wDerL, ↓DL.wFz, ↓DL.wFzR, ↓DL.frzD, ↓DL.wSide, ↓DL.wCatX, ↓DL.dEqA, ↓DL.scalEq, ↓DL.eqB, ↓DL.iLq, ↓DL.iSg, ↓DL.iEn, ↓DL.wM1, ↓DL.isStr, ↓DL.dJoin, ↓DL.dStrip, ↓DL.wSplit, ↓DL.dIntX, ↓DL.dInF, ↓DL.dInS, ↓DL.seqOf, ↓DL.wPar3, ↓DL.wFld, ↓DL.fldD, ↓DL.wSetF, ↓DL.setFD, ↓DL.wAugF, ↓DL.wMeth, ↓DL.recvD, ↓DL.wMake, ↓DL.fillP, ↓DL.wAsg2, ↓DL.gFldD, ↓DL.gStD, ↓DL.starV, ↓DL.gCs, ↓DL.gNl, ↓DL.gTp, Nat.add_zero, List.append_nil, List.zipWith_nil_left, List.zipWith_cons_cons, List.getD_cons_zero, ↓DL.wYes, reduceCtorEq, ↓DL.dEqX, ↓DL.dInD, DL.dataS_rl, DL.dataS_tup, DL.dataS_int, DL.dataS_str, DL.dataS_non, DL.dataD_nil, DL.dataD_ti, DL.dataD_li, ↓DL.isL2, ↓DL.dCountX, ↓DL.dIndexX, Option.isSome_some, ↓DL.dStrX]
          refine ⟨by omega, ?_⟩
          refine forW_ind (fun ds σ S' => ∃ (i m : Nat) (c : Option D), ds = rngD i m ∧ i + m = ys.length ∧ σ = [some (.rl xs), some (.rl ys), c] ∧ S' = S) ?_ ?_ ⟨0, ys.length, none, by simp, by omega, rfl, rfl⟩
          · rintro σ S' ⟨i, m, c, -, -, -, rfl⟩
            exact ⟨True.intro, h⟩
          · rintro d ds σ S' ⟨i, m, c, e, hm, rfl, rfl⟩ nx
            cases m with
            | zero => cases e
            | succ m =>
              rw [rngD_cons] at e
              cases e
              have hi : i < xs.length := by omega
              have hj : i < ys.length := by omega
              simp only [↓DL.wSeq, ↓DL.wSlT, ↓DL.wNo, ↓DL.wPart, ↓DL.dSlT, ↓DL.dCat, ↓DL.dListT, ↓DL.wFor, ↓DL.iR1, ↓DL.iR2, ↓DL.iTp, ↓DL.iLs, ↓DL.iNw, ↓DL.iLn, ↓DL.wNext, ↓DL.wIf, ↓DL.wRet, ↓DL.wRetN, ↓DL.wDrop, ↓DL.wAsg, ↓DL.gNm, ↓DL.wPar, ↓DL.wVar, ↓DL.wC, ↓DL.wOp, ↓DL.wUn, ↓DL.wTst, ↓DL.wChain, ↓DL.wAnd, ↓DL.wOr, ↓DL.wNot, ↓DL.wAndV, ↓DL.wOrV, ↓DL.wNotV, ↓DL.wIfE, ↓DL.wNil, ↓DL.wCons, ↓DL.wTup, ↓DL.wLst, ↓DL.wNew, ↓DL.wDer, ↓DL.wVL, ↓DL.wVLL, ↓DL.wALL, ↓DL.wCall, ↓DL.wIsa, ↓DL.wRaise, ↓DL.isB, ↓DL.dI0, ↓DL.dI, ↓DL.dU, ↓DL.dLen, ↓DL.dIx, ↓DL.gSubD, ↓DL.setD, ↓DL.wBM, ↓DL.isL, ↓DL.onL, ↓DL.dPopAt, ↓DL.dAppend, ↓DL.wIxV, ↓DL.wEqVL, ↓DL.wEqL, ↓DL.dEqS, ↓DL.dNeS, ↓DL.startD, List.map_cons, List.map_nil, List.length_cons, List.length_nil, List.cons_append, List.nil_append, List.replicate_succ, List.replicate_zero, List.getElem?_cons_zero, List.getElem?_cons_succ, List.set_cons_zero, List.set_cons_succ, Nat.reduceAdd, Nat.reduceSub, Nat.sub_self, ↓DL.kindD, ↓DL.dIsN, ↓DL.dNotN, ↓DL.isaB, String.reduceBEq, Bool.or_false, Bool.false_or, Bool.true_or, Bool.or_true, Bool.and_true, Bool.and_false, Bool.true_and, Bool.false_and, decide_true, decide_false, ↓DL.isNon, if_true, if_false, Bool.not_true, Bool.not_false, Bool.false_eq_true, reduceIte, true_and, and_true, ↓DL.dAddX, ↓DL.dMulX, ↓DL.dIxX, ↓DL.wSlX, ↓DL.dSlX, ↓DL.wSlL2, ↓DL.withL_rl, ↓DL.lsOf, ↓DL.wDerL, ↓DL.wFz, ↓DL.wFzR, ↓DL.frzD, ↓DL.wSide, ↓DL.wCatX, ↓DL.dEqA, ↓DL.scalEq, ↓DL.eqB, ↓DL.iLq, ↓DL.iSg, ↓DL.iEn, ↓DL.wM1, ↓DL.isStr, ↓DL.dJoin, ↓DL.dStrip, ↓DL.wSplit, ↓DL.dIntX, ↓DL.dInF, ↓DL.dInS, ↓DL.seqOf, ↓DL.wPar3, ↓DL.wFld, ↓DL.fldD, ↓DL.wSetF, ↓DL.setFD, ↓DL.wAugF, ↓DL.wMeth, ↓DL.recvD, ↓DL.wMake, ↓DL.fillP, ↓DL.wAsg2, ↓DL.gFldD, ↓DL.gStD, ↓DL.starV, ↓DL.gCs, ↓DL.gNl, ↓DL.gTp, Nat.add_zero, List.append_nil, List.zipWith_nil_left, List.zipWith_cons_cons, List.getD_cons_zero, ↓DL.wYes, reduceCtorEq, ↓DL.dEqX, ↓DL.dInD, DL.dataS_rl, DL.dataS_tup, DL.dataS_int, DL.dataS_str, DL.dataS_non, DL.dataD_nil, DL.dataD_ti, DL.dataD_li, ↓DL.isL2, ↓DL.dCountX, ↓DL.dIndexX, Option.isSome_some, ↓DL.dStrX]
              rw [atI_ofN, atI_ofN, List.getElem?_eq_getElem hi, List.getElem?_eq_getElem hj]
              exact ⟨ha i _ _ (List.getElem?_eq_getElem hi) (List.getElem?_eq_getElem hj), nx _ _ ⟨i + 1, m, _, by simp, by omega, rfl, rfl⟩⟩
        · simp only [↓DL.wSeq, ↓DL.wSlT, ↓DL.wNo, ↓DL.wPart, ↓DL.dSlT, ↓DL.dCat, ↓DL.dListT, ↓DL.wFor, ↓DL.iR1, ↓DL.iR2, ↓DL.iTp, ↓DL.iLs, ↓DL.iNw, ↓DL.iLn, ↓DL.wNext, ↓DL.wIf, ↓DL.wRet, ↓DL.wRetN, ↓DL.wDrop, ↓DL.wAsg, ↓DL.gNm, ↓DL.wPar, ↓DL.wVar, ↓DL.wC, ↓DL.wOp, ↓DL.wUn, ↓DL.wTst, ↓DL.wChain, ↓DL.wAnd, ↓DL.wOr, ↓DL.wNot, ↓DL.wAndV, ↓DL.wOrV, ↓DL.wNotV, ↓DL.wIfE, ↓DL.wNil, ↓DL.wCons, ↓DL.wTup, ↓DL.wLst, ↓DL.wNew, ↓DL.wDer, ↓DL.wVL, ↓DL.wVLL, ↓DL.wALL, ↓DL.wCall, ↓DL.wIsa, ↓DL.wRaise, ↓DL.isB, ↓DL.dI0, ↓DL.dI, ↓DL.dU, ↓DL.dLen, ↓DL.dIx, ↓DL.gSubD, ↓DL.setD, ↓DL.wBM, ↓DL.isL, ↓DL.onL, ↓DL.dPopAt, ↓DL.dAppend, ↓DL.wIxV, ↓DL.wEqVL, ↓DL.wEqL, ↓DL.dEqS, ↓DL.dNeS, ↓DL.startD, List.map_cons, List.map_nil, List.length_cons, List.length_nil, List.cons_append, List.nil_append, List.replicate_succ, List.replicate_zero, List.getElem?_cons_zero, List.getElem?_cons_succ, List.set_cons_zero, List.set_cons_succ, Nat.reduceAdd, Nat.reduceSub, Nat.sub_self, ↓DL.kindD, ↓DL.dIsN, ↓DL.dNotN, ↓DL.isaB, String.reduceBEq, Bool.or_false, Bool.false_or, Bool.true_or, Bool.or_true, Bool.and_true, Bool.and_false, Bool.true_and, Bool.false_and, decide_true, decide_false, ↓DL.isNon, if_true, if_false, Bool.not_true, Bool.not_false, Bool.false_eq_true, reduceIte, true_and, and_true, ↓DL.dAddX, ↓DL.dMulX, ↓DL.dIxX, ↓DL.wSlX, ↓DL.dSlX, ↓DL.wSlL2, ↓DL.withL_rl, ↓DL.lsOf, ↓DL.wDerL, ↓DL.wFz, ↓DL.wFzR, ↓DL.frzD, ↓DL.wSide, ↓DL.wCatX, ↓DL.dEqA, ↓DL.scalEq, ↓DL.eqB, ↓DL.iLq, ↓DL.iSg, ↓DL.iEn, ↓DL.wM1, ↓DL.isStr, ↓DL.dJoin, ↓DL.dStrip, ↓DL.wSplit, ↓DL.dIntX, ↓DL.dInF, ↓DL.dInS, ↓DL.seqOf, ↓DL.wPar3, ↓DL.wFld, ↓DL.fldD, ↓DL.wSetF, ↓DL.setFD, ↓DL.wAugF, ↓DL.wMeth, ↓DL.recvD, ↓DL.wMake, ↓DL.fillP, ↓DL.wAsg2, ↓DL.gFldD, ↓DL.gStD, ↓DL.starV, ↓DL.gCs, ↓DL.gNl, ↓DL.gTp, Nat.add_zero, List.append_nil, List.zipWith_nil_left, List.zipWith_cons_cons, List.getD_cons_zero, ↓DL.wYes, reduceCtorEq, ↓DL.dEqX, ↓DL.dInD, DL.dataS_rl, DL.dataS_tup, DL.dataS_int, DL.dataS_str, DL.dataS_non, DL.dataD_nil, DL.dataD_ti, DL.dataD_li, ↓DL.isL2, ↓DL.dCountX, ↓DL.dIndexX, Option.isSome_some, ↓DL.dStrX, ea]
          rw [e0]
          simp only [↓DL.wSeq, ↓DL.wSlT, ↓DL.wNo, ↓DL.wPart, ↓DL.dSlT, ↓DL.dCat, ↓DL.dListT, ↓DL.wFor, ↓DL.iR1, ↓DL.iR2, ↓DL.iTp, ↓DL.iLs, ↓DL.iNw, ↓DL.iLn, ↓DL.wNext, ↓DL.wIf, ↓DL.wRet, ↓DL.wRetN, ↓DL.wDrop, ↓DL.wAsg, ↓DL.gNm, ↓DL.wPar, ↓DL.wVar, ↓DL.wC, ↓DL.wOp, ↓DL.wUn, ↓DL.wTst, ↓DL.wChain, ↓DL.wAnd, ↓DL.wOr, ↓DL.wNot, ↓DL.wAndV, ↓DL.wOrV, ↓DL.wNotV, ↓DL.wIfE, ↓DL.wNil, ↓DL.wCons, ↓DL.wTup, ↓DL.wLst, ↓DL.wNew, ↓DL.wDer, ↓DL.wVL, ↓DL.wVLL, ↓DL.wALL, ↓DL.wCall, ↓DL.wIsa, ↓DL.wRaise, ↓DL.isB, ↓DL.dI0, ↓DL.dI, ↓DL.dU, ↓DL.dLen, ↓DL.dIx, ↓DL.gSubD, ↓DL.setD, ↓DL.wBM, ↓DL.isL, ↓DL.onL, ↓DL.dPopAt, ↓DL.dAppend, ↓DL.wIxV, ↓DL.wEqVL, ↓DL.wEqL, ↓DL.dEqS, ↓DL.dNeS, ↓DL.startD, List.map_cons, List.map_nil, List.length_cons, List.length_nil, List.cons_append, List.nil_append, List.replicate_succ, List.replicate_zero, List.getElem?_cons_zero, List.getElem?_cons_succ, List.set_cons_zero, List.set_cons_succ, Nat.reduceAdd, Nat.reduceSub, Nat.sub_self, ↓DL.kindD, ↓DL.dIsN, ↓DL.dNotN, ↓DL.isaB, String.reduceBEq, Bool.or_false, Bool.false_or, Bool.true_or, Bool.or_true, Bool.and_true, Bool.and_false, Bool.true_and, Bool.false_and, decide_true, decide_false, ↓DL.isNon, if_true, if_false, Bool.not_true, Bool.not_false, Bool.false_eq_true, reduceIte, true_and, and_true, ↓DL.dAddX, ↓DL.dMulX, ↓DL.dIxX, ↓DL.wSlX, ↓DL.dSlX, ↓DL.wSlL2, ↓DL.withL_rl, ↓DL.lsOf, ↓DL.wDerL, ↓DL.wFz, ↓DL.wFzR, ↓DL.frzD, ↓DL.wSide, ↓DL.wCatX, ↓DL.dEqA, ↓DL.scalEq, ↓DL.eqB, ↓DL.iLq, ↓DL.iSg, ↓DL.iEn, ↓DL.wM1, ↓DL.isStr, ↓DL.dJoin, ↓DL.dStrip, ↓DL.wSplit, ↓DL.dIntX, ↓DL.dInF, ↓DL.dInS, ↓DL.seqOf, ↓DL.wPar3, ↓DL.wFld, ↓DL.fldD, ↓DL.wSetF, ↓DL.setFD, ↓DL.wAugF, ↓DL.wMeth, ↓DL.recvD, ↓DL.wMake, ↓DL.fillP, ↓DL.wAsg2, ↓DL.gFldD, ↓DL.gStD, ↓DL.starV, ↓DL.gCs, ↓DL.gNl, ↓DL.gTp, Nat.add_zero, List.append_nil, List.zipWith_nil_left, List.zipWith_cons_cons, List.getD_cons_zero, ↓DL.wYes, reduceCtorEq, ↓DL.dEqX, ↓DL.dInD, DL.dataS_rl, DL.dataS_tup, DL.dataS_int, DL.dataS_str, DL.dataS_non, DL.dataD_nil, DL.dataD_ti, DL.dataD_li, ↓DL.isL2, ↓DL.dCountX, ↓DL.dIndexX, Option.isSome_some, ↓DL.dStrX, ea]
          refine ⟨by omega, ?_⟩
          refine forW_ind (fun ds σ S' => ∃ (i m : Nat) (c : Option D), ds = rngD i m ∧ i + m = ys.length ∧ σ = [some (.ref a), some (.rl ys), c] ∧ S' = S) ?_ ?_ ⟨0, ys.length, none, by simp, by omega, rfl, rfl⟩
          · rintro σ S' ⟨i, m, c, -, -, -, rfl⟩
            exact ⟨True.intro, h⟩
          · rintro d ds σ S' ⟨i, m, c, e, hm, rfl, rfl⟩ nx
            cases m with
            | zero => cases e
            | succ m =>
              rw [rngD_cons] at e
              cases e
              have hi : i < xs.length := by omega
              have hj : i < ys.length := by omega
              simp only [↓DL.wSeq, ↓DL.wSlT, ↓DL.wNo, ↓DL.wPart, ↓DL.dSlT, ↓DL.dCat, ↓DL.dListT, ↓DL.wFor, ↓DL.iR1, ↓DL.iR2, ↓DL.iTp, ↓DL.iLs, ↓DL.iNw, ↓DL.iLn, ↓DL.wNext, ↓DL.wIf, ↓DL.wRet, ↓DL.wRetN, ↓DL.wDrop, ↓DL.wAsg, ↓DL.gNm, ↓DL.wPar, ↓DL.wVar, ↓DL.wC, ↓DL.wOp, ↓DL.wUn, ↓DL.wTst, ↓DL.wChain, ↓DL.wAnd, ↓DL.wOr, ↓DL.wNot, ↓DL.wAndV, ↓DL.wOrV, ↓DL.wNotV, ↓DL.wIfE, ↓DL.wNil, ↓DL.wCons, ↓DL.wTup, ↓DL.wLst, ↓DL.wNew, ↓DL.wDer, ↓DL.wVL, ↓DL.wVLL, ↓DL.wALL, ↓DL.wCall, ↓DL.wIsa, ↓DL.wRaise, ↓DL.isB, ↓DL.dI0, ↓DL.dI, ↓DL.dU, ↓DL.dLen, ↓DL.dIx, ↓DL.gSubD, ↓DL.setD, ↓DL.wBM, ↓DL.isL, ↓DL.onL, ↓DL.dPopAt, ↓DL.dAppend, ↓DL.wIxV, ↓DL.wEqVL, ↓DL.wEqL, ↓DL.dEqS, ↓DL.dNeS, ↓DL.startD, List.map_cons, List.map_nil, List.length_cons, List.length_nil, List.cons_append, List.nil_append, List.replicate_succ, List.replicate_zero, List.getElem?_cons_zero, List.getElem?_cons_succ, List.set_cons_zero, List.set_cons_succ, Nat.reduceAdd, Nat.reduceSub, Nat.sub_self, ↓DL.kindD, ↓DL.dIsN, ↓DL.dNotN, ↓DL.isaB, String.reduceBEq, Bool.or_false, Bool.false_or, Bool.true_or, Bool.or_true, Bool.and_true, Bool.and_false, Bool.true_and, Bool.false_and, decide_true, decide_false, ↓DL.isNon, if_true, if_false, Bool.not_true, Bool.not_false, Bool.false_eq_true, reduceIte, true_and, and_true, ↓DL.dAddX, ↓DL.dMulX, ↓DL.dIxX, ↓DL.wSlX, ↓DL.dSlX, ↓DL.wSlL2, ↓DL.withL_rl, ↓DL.lsOf, ↓DL.wDerL, ↓DL.wFz, ↓DL.wFzR, ↓DL.frzD, ↓DL.wSide, ↓DL.wCatX, ↓DL.dEqA, ↓DL.scalEq, ↓DL.eqB, ↓DL.iLq, ↓DL.iSg, ↓DL.iEn, ↓DL.wM1, ↓DL.isStr, ↓DL.dJoin, ↓DL.dStrip, ↓DL.wSplit, ↓DL.dIntX, ↓DL.dInF, ↓DL.dInS, ↓DL.seqOf, ↓DL.wPar3, ↓DL.wFld, ↓DL.fldD, ↓DL.wSetF, ↓DL.setFD, ↓DL.wAugF, ↓DL.wMeth, ↓DL.recvD, ↓DL.wMake, ↓DL.fillP, ↓DL.wAsg2, ↓DL.gFldD, ↓DL.gStD, ↓DL.starV, ↓DL.gCs, ↓DL.gNl, ↓DL.gTp, Nat.add_zero, List.append_nil, List.zipWith_nil_left, List.zipWith_cons_cons, List.getD_cons_zero, ↓DL.wYes, reduceCtorEq, ↓DL.dEqX, ↓DL.dInD, DL.dataS_rl, DL.dataS_tup, DL.dataS_int, DL.dataS_str, DL.dataS_non, DL.dataD_nil, DL.dataD_ti, DL.dataD_li, ↓DL.isL2, ↓DL.dCountX, ↓DL.dIndexX, Option.isSome_some, ↓DL.dStrX, ea]
              rw [atI_ofN, atI_ofN, List.getElem?_eq_getElem hi, List.getElem?_eq_getElem hj]
              exact ⟨ha i _ _ (List.getElem?_eq_getElem hi) (List.getElem?_eq_getElem hj), nx _ _ ⟨i + 1, m, _, by simp, by omega, rfl, rfl⟩⟩
      · exact ha.elim
    · exact h.elim
theorem ok__law_alike (G : Def K mg "_law_alike" s__law_alike ["_law_found", "_law_due"]) (T : Txt K mg) : ∀ n, Cal P w K mg base "_law_alike" n ["_law_found", "_law_due"] (sp_alike n)
  | 0 => (G.calF 0).impD fun ds S Q E h => by
    unfold sp_alike at h
    split at h
    · exact h.1.elim
    · exact h
  | n + 1 => ok_alike_step G T n (ok__law_alike G T n)

theorem sc__law_told : FnScope ["_law_work", "e", "_law_kinds", "_law_words", "_law_word"] ["_law_work"] (defScope s__law_told) := ⟨rfl, rfl, rfl, by decide +kernel, rfl, by decide +kernel, by decide +kernel⟩
theorem ok__law_told (errs : List Str) (hsub : ∀ nm ∈ errs, nm ∈ errNames) (k : Nat) (G : Def K mg "_law_told" s__law_told ["_law_work"]) (T : Txt K mg) (ER : ErrK K mg errs) : Cal P w K mg base "_law_told" (k + 2) ["_law_work"] (sp_told P w K mg base k errs) := by
  obtain ⟨CP, hport, hexm⟩ := ER.port
  have hcat : ∀ nm b cls, catE errs nm = some b → mg nm = some cls → PySem.W.exmOne K cls (.ref CP) = some b := fun nm b cls h1 h2 => by
    obtain ⟨h3, rfl⟩ := catE_e h1
    exact hexm nm h3 cls h2
  refine G.calD sc__law_told (fun ds S Q E h => ?_) fun f cdv A outer s H E hr => ⟨_, (dpss_one (dps_try (i := 1) (cat := catE errs) rfl rfl sc__law_told.nd rfl rfl ⟨rfl, by decide, .inl hport⟩ (takes_of rfl rfl rfl rfl) hcat (fun W1 pn xe tk1 => (dpss_one (dps_ret (dpe_fnE (P := P) (w := w) (K := K) (mg := mg) (base := base) (i := 0) hr tk1 rfl rfl rfl rfl rfl)))) (fun e a oe cls pn he hcls hz hf => (dpss_cons (dps_set (i := 2) sc__law_told.nd rfl (by first | exact Or.inl rfl | exact Or.inr rfl) (dpe_fz (dpl_lst (dpa_cons (dpe_isK (i := 1) ER he hcls hz hf (by decide) rfl (.inl rfl) rfl rfl) (dpa_cons (dpe_isK (i := 1) ER he hcls hz hf (by decide) rfl (.inl rfl) rfl rfl) (dpa_cons (dpe_isK (i := 1) ER he hcls hz hf (by decide) rfl (.inl rfl) rfl rfl) (dpa_cons (dpe_isK (i := 1) ER he hcls hz hf (by decide) rfl (.inl rfl) rfl rfl) dpa_nil)))))))
    (dpss_cons (dps_set (i := 2) sc__law_told.nd rfl (by first | exact Or.inl rfl | exact Or.inr rfl) (dpe_fz (dpl_catX (psd_val (dv 2)) (psd_new (dpl_lst (dpa_cons (dpe_isK (i := 1) ER he hcls hz hf (by decide) rfl (.inl rfl) rfl rfl) (dpa_cons (dpe_isK (i := 1) ER he hcls hz hf (by decide) rfl (.inl rfl) rfl rfl) (dpa_cons (dpe_isK (i := 1) ER he hcls hz hf (by decide) rfl (.inl rfl) rfl rfl) dpa_nil))))))))
    (dpss_cons (dps_set (i := 2) sc__law_told.nd rfl (by first | exact Or.inl rfl | exact Or.inr rfl) (dpe_fz (dpl_catX (psd_val (dv 2)) (psd_new (dpl_lst (dpa_cons (dpe_isK (i := 1) ER he hcls hz hf (by decide) rfl (.inl rfl) rfl rfl) (dpa_cons (dpe_isK (i := 1) ER he hcls hz hf (by decide) rfl (.inl rfl) rfl rfl) (dpa_cons (dpe_isK (i := 1) ER he hcls hz hf (by decide) rfl (.inl rfl) rfl rfl) dpa_nil))))))))
    (dpss_cons (dps_set (i := 2) sc__law_told.nd rfl (by first | exact Or.inl rfl | exact Or.inr rfl) (dpe_fz (dpl_catX (psd_val (dv 2)) (psd_new (dpl_lst (dpa_cons (dpe_isK (i := 1) ER he hcls hz hf (by decide) rfl (.inl rfl) rfl rfl) (dpa_cons (dpe_isK (i := 1) ER he hcls hz hf (by decide) rfl (.inl rfl) rfl rfl) dpa_nil)))))))
    (dpss_cons (dps_if (dpw_pt (dpw_or (dpt_cmp (op_neA (hr.units)) lr_neA (dpe_bm PySem.F.plainAttrs_list PySem.F.slot_list_count PySem.F.type_list_count mt_countB lm_countX ty_list2 (dv 2) (dpa_cons dpe_bl dpa_nil)) dpe_int (nomark _)) (dpw_or1 (dpt_not (dpt_val (dpe_isV (i := 1) ER he hcls hz hf rfl (.inl rfl) rfl rfl)))))) (dpss_one (dps_ret (dpe_tup (dpa_cons dpe_str (dpa_cons dpe_int dpa_nil))))) dpss_nil)
    (dpss_cons (dps_set (i := 3) sc__law_told.nd rfl (by first | exact Or.inl rfl | exact Or.inr rfl) (dpe_fz (dpl_lst (dpa_cons dpe_str (dpa_cons dpe_str (dpa_cons dpe_str (dpa_cons dpe_str (dpa_cons dpe_str (dpa_cons dpe_str (dpa_cons dpe_str (dpa_cons dpe_str (dpa_cons dpe_str dpa_nil))))))))))))
    (dpss_cons (dps_set (i := 4) sc__law_told.nd rfl (by first | exact Or.inl rfl | exact Or.inr rfl) (dpe_ixX (dpe_fz (dpl_catX (psd_val (dv 3)) (psd_new (dpl_lst (dpa_cons dpe_str (dpa_cons dpe_str (dpa_cons dpe_str dpa_nil))))))) (dpe_bm PySem.F.plainAttrs_list PySem.F.slot_list_index PySem.F.type_list_index mt_index lm_indexX ty_list2 (dv 2) (dpa_cons dpe_bl dpa_nil)) (fun _ _ => rfl)))
    (dpss_cons (dps_if (dpt_cmp (op_eqA (hr.units)) lr_eqA (dv 4) dpe_str (nomark _)) (dpss_one (dps_ret (dpe_tup (dpa_cons (dv 4) (dpa_cons (dpe_xK (i := 1) (f := "site") ER he hcls hz hf (by decide) rfl (.inl rfl)) (dpa_cons (dpe_xK (i := 1) (f := "row") ER he hcls hz hf (by decide) rfl (.inl rfl)) dpa_nil)))))) dpss_nil)
    (dpss_cons (dps_if (dpt_cmp op_in_seq lr_inF (dv 4) (dpe_tup (dpa_cons dpe_str (dpa_cons dpe_str dpa_nil))) rfl) (dpss_one (dps_ret (dpe_tup (dpa_cons (dv 4) (dpa_cons (dpe_ifE (dpt_cmp (op_eqA (hr.units)) lr_eqA (dv 4) dpe_str (nomark _)) (dpe_xK (i := 1) (f := "lacks") ER he hcls hz hf (by decide) rfl (.inl rfl)) (dpe_xK (i := 1) (f := "by") ER he hcls hz hf (by decide) rfl (.inl rfl))) dpa_nil))))) dpss_nil)
    (dpss_one (dps_ret (dpe_tup (dpa_cons (dv 4) (dpa_cons (dpe_ifE (dpt_cmp (op_eqA (hr.units)) lr_eqA (dv 4) dpe_str (nomark _)) (dpe_xK (i := 1) (f := "row") ER he hcls hz hf (by decide) rfl (.inl rfl)) dpe_int) dpa_nil))))))))))))))))), ?_⟩
  · unfold sp_told at h; split at h <;> first | rfl | exact h.elim
  · intro ds S Q ED h
    unfold sp_told at h
    split at h
    · rename_i L cells vals
      obtain ⟨S0, wb, Q0, E0, lb, pt, ns, nv, h, hq, he⟩ := h
      simp only [↓DL.wSeq, ↓DL.wSlT, ↓DL.wNo, ↓DL.wPart, ↓DL.dSlT, ↓DL.dCat, ↓DL.dListT, ↓DL.wFor, ↓DL.iR1, ↓DL.iR2, ↓DL.iTp, ↓DL.iLs, ↓DL.iNw, ↓DL.iLn, ↓DL.wNext, ↓DL.wIf, ↓DL.wRet, ↓DL.wRetN, ↓DL.wDrop, ↓DL.wAsg, ↓DL.gNm, ↓DL.wPar, ↓DL.wVar, ↓DL.wC, ↓DL.wOp, ↓DL.wUn, ↓DL.wTst, ↓DL.wChain, ↓DL.wAnd, ↓DL.wOr, ↓DL.wNot, ↓DL.wAndV, ↓DL.wOrV, ↓DL.wNotV, ↓DL.wIfE, ↓DL.wNil, ↓DL.wCons, ↓DL.wTup, ↓DL.wLst, ↓DL.wNew, ↓DL.wDer, ↓DL.wVL, ↓DL.wVLL, ↓DL.wALL, ↓DL.wCall, ↓DL.wIsa, ↓DL.wRaise, ↓DL.isB, ↓DL.dI0, ↓DL.dI, ↓DL.dU, ↓DL.dLen, ↓DL.dIx, ↓DL.gSubD, ↓DL.setD, ↓DL.wBM, ↓DL.isL, ↓DL.onL, ↓DL.dPopAt, ↓DL.dAppend, ↓DL.wIxV, ↓DL.wEqVL, ↓DL.wEqL, ↓DL.dEqS, ↓DL.dNeS, ↓DL.startD, List.map_cons, List.map_nil, List.length_cons, List.length_nil, List.cons_append, List.nil_append, List.replicate_succ, List.replicate_zero, List.getElem?_cons_zero, List.getElem?_cons_succ, List.set_cons_zero, List.set_cons_succ, Nat.reduceAdd, Nat.reduceSub, Nat.sub_self, ↓DL.kindD, ↓DL.dIsN, ↓DL.dNotN, ↓DL.isaB, String.reduceBEq, Bool.or_false, Bool.false_or, Bool.true_or, Bool.or_true, Bool.and_true, Bool.and_false, Bool.true_and, Bool.false_and, decide_true, decide_false, ↓DL.isNon, if_true, if_false, Bool.not_true, Bool.not_false, Bool.false_eq_true, reduceIte, true_and, and_true, ↓DL.dAddX, ↓DL.dMulX, ↓DL.dIxX, ↓DL.wSlX, ↓DL.dSlX, ↓DL.wSlL2, ↓DL.withL_rl, ↓DL.lsOf, ↓DL.wDerL, ↓DL.wFz, ↓DL.wFzR, ↓DL.frzD, ↓DL.wSide, ↓DL.wCatX, ↓DL.dEqA, ↓DL.scalEq, ↓DL.eqB, ↓DL.iLq, ↓DL.iSg, ↓DL.iEn, ↓DL.wM1, ↓DL.isStr, ↓DL.dJoin, ↓DL.dStrip, ↓DL.wSplit, ↓DL.dIntX, ↓DL.dInF, ↓DL.dInS, ↓DL.seqOf, ↓DL.wPar3, ↓DL.wFld, ↓DL.fldD, ↓DL.wSetF, ↓DL.setFD, ↓DL.wAugF, ↓DL.wMeth, ↓DL.recvD, ↓DL.wMake, ↓DL.fillP, ↓DL.wAsg2, ↓DL.gFldD, ↓DL.gStD, ↓DL.starV, ↓DL.gCs, ↓DL.gNl, ↓DL.gTp, Nat.add_zero, List.append_nil, List.zipWith_nil_left, List.zipWith_cons_cons, List.getD_cons_zero, ↓DL.wYes, reduceCtorEq, ↓DL.dEqX, ↓DL.dInD, DL.dataS_rl, DL.dataS_tup, DL.dataS_int, DL.dataS_str, DL.dataS_non, DL.dataD_nil, DL.dataD_ti, DL.dataD_li, ↓DL.isL2, ↓DL.dCountX, ↓DL.dIndexX, Option.isSome_some, ↓DL.dStrX, wTry, wFn]
      refine ⟨S0, wb, Q0, E0, lb, pt, ns, nv, h, fun d S' q => ⟨_, Le.refl _, hq d S' q⟩, fun e S' q => ?_⟩
      obtain ⟨h1, d, h2, h3⟩ := he e S' q
      generalize joinS S S0 S' = S1 at h2 h3 ⊢
      clear h hq he q
      rw [h1]
      have hnm := hsub e.name (catE_e h1).1
      clear h1
      obtain ⟨cnt, j, idx, wj⟩ := err_bits _ hnm
      have hxd : xdAt e S1 := by
        unfold toldD at h2
        unfold xdAt
        split <;> first | trivial | skip
        rename_i dd q
        rw [q] at h2
        dsimp only at h2
        split at h2
        · rename_i fs q2
          first | (rw [q2]; trivial) | trivial
        · cases h2
      intro a ha
      simp only [↓DL.wSeq, ↓DL.wSlT, ↓DL.wNo, ↓DL.wPart, ↓DL.dSlT, ↓DL.dCat, ↓DL.dListT, ↓DL.wFor, ↓DL.iR1, ↓DL.iR2, ↓DL.iTp, ↓DL.iLs, ↓DL.iNw, ↓DL.iLn, ↓DL.wNext, ↓DL.wIf, ↓DL.wRet, ↓DL.wRetN, ↓DL.wDrop, ↓DL.wAsg, ↓DL.gNm, ↓DL.wPar, ↓DL.wVar, ↓DL.wC, ↓DL.wOp, ↓DL.wUn, ↓DL.wTst, ↓DL.wChain, ↓DL.wAnd, ↓DL.wOr, ↓DL.wNot, ↓DL.wAndV, ↓DL.wOrV, ↓DL.wNotV, ↓DL.wIfE, ↓DL.wNil, ↓DL.wCons, ↓DL.wTup, ↓DL.wLst, ↓DL.wNew, ↓DL.wDer, ↓DL.wVL, ↓DL.wVLL, ↓DL.wALL, ↓DL.wCall, ↓DL.wIsa, ↓DL.wRaise, ↓DL.isB, ↓DL.dI0, ↓DL.dI, ↓DL.dU, ↓DL.dLen, ↓DL.dIx, ↓DL.gSubD, ↓DL.setD, ↓DL.wBM, ↓DL.isL, ↓DL.onL, ↓DL.dPopAt, ↓DL.dAppend, ↓DL.wIxV, ↓DL.wEqVL, ↓DL.wEqL, ↓DL.dEqS, ↓DL.dNeS, ↓DL.startD, List.map_cons, List.map_nil, List.length_cons, List.length_nil, List.cons_append, List.nil_append, List.replicate_succ, List.replicate_zero, List.getElem?_cons_zero, List.getElem?_cons_succ, List.set_cons_zero, List.set_cons_succ, Nat.reduceAdd, Nat.reduceSub, Nat.sub_self, ↓DL.kindD, ↓DL.dIsN, ↓DL.dNotN, ↓DL.isaB, String.reduceBEq, Bool.or_false, Bool.false_or, Bool.true_or, Bool.or_true, Bool.and_true, Bool.and_false, Bool.true_and, Bool.false_and, decide_true, decide_false, ↓DL.isNon, if_true, if_false, Bool.not_true, Bool.not_false, Bool.false_eq_true, reduceIte, true_and, and_true, ↓DL.dAddX, ↓DL.dMulX, ↓DL.dIxX, ↓DL.wSlX, ↓DL.dSlX, ↓DL.wSlL2, ↓DL.withL_rl, ↓DL.lsOf, ↓DL.wDerL, ↓DL.wFz, ↓DL.wFzR, ↓DL.frzD, ↓DL.wSide, ↓DL.wCatX, ↓DL.dEqA, ↓DL.scalEq, ↓DL.eqB, ↓DL.iLq, ↓DL.iSg, ↓DL.iEn, ↓DL.wM1, ↓DL.isStr, ↓DL.dJoin, ↓DL.dStrip, ↓DL.wSplit, ↓DL.dIntX, ↓DL.dInF, ↓DL.dInS, ↓DL.seqOf, ↓DL.wPar3, ↓DL.wFld, ↓DL.fldD, ↓DL.wSetF, ↓DL.setFD, ↓DL.wAugF, ↓DL.wMeth, ↓DL.recvD, ↓DL.wMake, ↓DL.fillP, ↓DL.wAsg2, ↓DL.gFldD, ↓DL.gStD, ↓DL.starV, ↓DL.gCs, ↓DL.gNl, ↓DL.gTp, Nat.add_zero, List.append_nil, List.zipWith_nil_left, List.zipWith_cons_cons, List.getD_cons_zero, ↓DL.wYes, reduceCtorEq, ↓DL.dEqX, ↓DL.dInD, DL.dataS_rl, DL.dataS_tup, DL.dataS_int, DL.dataS_str, DL.dataS_non, DL.dataD_nil, DL.dataD_ti, DL.dataD_li, ↓DL.isL2, ↓DL.dCountX, ↓DL.dIndexX, Option.isSome_some, ↓DL.dStrX, ↓wIsE, ↓wCatV]
      repeat first | refine ⟨hxd, ?_⟩ | refine ⟨by decide, ?_⟩
      have e2 := asBls_err e.name
      simp only [↓DL.wSeq, ↓DL.wSlT, ↓DL.wNo, ↓DL.wPart, ↓DL.dSlT, ↓DL.dCat, ↓DL.dListT, ↓DL.wFor, ↓DL.iR1, ↓DL.iR2, ↓DL.iTp, ↓DL.iLs, ↓DL.iNw, ↓DL.iLn, ↓DL.wNext, ↓DL.wIf, ↓DL.wRet, ↓DL.wRetN, ↓DL.wDrop, ↓DL.wAsg, ↓DL.gNm, ↓DL.wPar, ↓DL.wVar, ↓DL.wC, ↓DL.wOp, ↓DL.wUn, ↓DL.wTst, ↓DL.wChain, ↓DL.wAnd, ↓DL.wOr, ↓DL.wNot, ↓DL.wAndV, ↓DL.wOrV, ↓DL.wNotV, ↓DL.wIfE, ↓DL.wNil, ↓DL.wCons, ↓DL.wTup, ↓DL.wLst, ↓DL.wNew, ↓DL.wDer, ↓DL.wVL, ↓DL.wVLL, ↓DL.wALL, ↓DL.wCall, ↓DL.wIsa, ↓DL.wRaise, ↓DL.isB, ↓DL.dI0, ↓DL.dI, ↓DL.dU, ↓DL.dLen, ↓DL.dIx, ↓DL.gSubD, ↓DL.setD, ↓DL.wBM, ↓DL.isL, ↓DL.onL, ↓DL.dPopAt, ↓DL.dAppend, ↓DL.wIxV, ↓DL.wEqVL, ↓DL.wEqL, ↓DL.dEqS, ↓DL.dNeS, ↓DL.startD, List.map_cons, List.map_nil, List.length_cons, List.length_nil, List.cons_append, List.nil_append, List.replicate_succ, List.replicate_zero, List.getElem?_cons_zero, List.getElem?_cons_succ, List.set_cons_zero, List.set_cons_succ, Nat.reduceAdd, Nat.reduceSub, Nat.sub_self, ↓DL.kindD, ↓DL.dIsN, ↓DL.dNotN, ↓DL.isaB, String.reduceBEq, Bool.or_false, Bool.false_or, Bool.true_or, Bool.or_true, Bool.and_true, Bool.and_false, Bool.true_and, Bool.false_and, decide_true, decide_false, ↓DL.isNon, if_true, if_false, Bool.not_true, Bool.not_false, Bool.false_eq_true, reduceIte, true_and, and_true, ↓DL.dAddX, ↓DL.dMulX, ↓DL.dIxX, ↓DL.wSlX, ↓DL.dSlX, ↓DL.wSlL2, ↓DL.withL_rl, ↓DL.lsOf, ↓DL.wDerL, ↓DL.wFz, ↓DL.wFzR, ↓DL.frzD, ↓DL.wSide, ↓DL.wCatX, ↓DL.dEqA, ↓DL.scalEq, ↓DL.eqB, ↓DL.iLq, ↓DL.iSg, ↓DL.iEn, ↓DL.wM1, ↓DL.isStr, ↓DL.dJoin, ↓DL.dStrip, ↓DL.wSplit, ↓DL.dIntX, ↓DL.dInF, ↓DL.dInS, ↓DL.seqOf, ↓DL.wPar3, ↓DL.wFld, ↓DL.fldD, ↓DL.wSetF, ↓DL.setFD, ↓DL.wAugF, ↓DL.wMeth, ↓DL.recvD, ↓DL.wMake, ↓DL.fillP, ↓DL.wAsg2, ↓DL.gFldD, ↓DL.gStD, ↓DL.starV, ↓DL.gCs, ↓DL.gNl, ↓DL.gTp, Nat.add_zero, List.append_nil, List.zipWith_nil_left, List.zipWith_cons_cons, List.getD_cons_zero, ↓DL.wYes, reduceCtorEq, ↓DL.dEqX, ↓DL.dInD, DL.dataS_rl, DL.dataS_tup, DL.dataS_int, DL.dataS_str, DL.dataS_non, DL.dataD_nil, DL.dataD_ti, DL.dataD_li, ↓DL.isL2, ↓DL.dCountX, ↓DL.dIndexX, Option.isSome_some, ↓DL.dStrX, e2]
      rw [cnt, if_neg (by decide)]
      refine ⟨hxd, ?_⟩
      repeat refine ⟨by decide, ?_⟩
      have aw := atI_err wj
      simp only [↓DL.wSeq, ↓DL.wSlT, ↓DL.wNo, ↓DL.wPart, ↓DL.dSlT, ↓DL.dCat, ↓DL.dListT, ↓DL.wFor, ↓DL.iR1, ↓DL.iR2, ↓DL.iTp, ↓DL.iLs, ↓DL.iNw, ↓DL.iLn, ↓DL.wNext, ↓DL.wIf, ↓DL.wRet, ↓DL.wRetN, ↓DL.wDrop, ↓DL.wAsg, ↓DL.gNm, ↓DL.wPar, ↓DL.wVar, ↓DL.wC, ↓DL.wOp, ↓DL.wUn, ↓DL.wTst, ↓DL.wChain, ↓DL.wAnd, ↓DL.wOr, ↓DL.wNot, ↓DL.wAndV, ↓DL.wOrV, ↓DL.wNotV, ↓DL.wIfE, ↓DL.wNil, ↓DL.wCons, ↓DL.wTup, ↓DL.wLst, ↓DL.wNew, ↓DL.wDer, ↓DL.wVL, ↓DL.wVLL, ↓DL.wALL, ↓DL.wCall, ↓DL.wIsa, ↓DL.wRaise, ↓DL.isB, ↓DL.dI0, ↓DL.dI, ↓DL.dU, ↓DL.dLen, ↓DL.dIx, ↓DL.gSubD, ↓DL.setD, ↓DL.wBM, ↓DL.isL, ↓DL.onL, ↓DL.dPopAt, ↓DL.dAppend, ↓DL.wIxV, ↓DL.wEqVL, ↓DL.wEqL, ↓DL.dEqS, ↓DL.dNeS, ↓DL.startD, List.map_cons, List.map_nil, List.length_cons, List.length_nil, List.cons_append, List.nil_append, List.replicate_succ, List.replicate_zero, List.getElem?_cons_zero, List.getElem?_cons_succ, List.set_cons_zero, List.set_cons_succ, Nat.reduceAdd, Nat.reduceSub, Nat.sub_self, ↓DL.kindD, ↓DL.dIsN, ↓DL.dNotN, ↓DL.isaB, String.reduceBEq, Bool.or_false, Bool.false_or, Bool.true_or, Bool.or_true, Bool.and_true, Bool.and_false, Bool.true_and, Bool.false_and, decide_true, decide_false, ↓DL.isNon, if_true, if_false, Bool.not_true, Bool.not_false, Bool.false_eq_true, reduceIte, true_and, and_true, ↓DL.dAddX, ↓DL.dMulX, ↓DL.dIxX, ↓DL.wSlX, ↓DL.dSlX, ↓DL.wSlL2, ↓DL.withL_rl, ↓DL.lsOf, ↓DL.wDerL, ↓DL.wFz, ↓DL.wFzR, ↓DL.frzD, ↓DL.wSide, ↓DL.wCatX, ↓DL.dEqA, ↓DL.scalEq, ↓DL.eqB, ↓DL.iLq, ↓DL.iSg, ↓DL.iEn, ↓DL.wM1, ↓DL.isStr, ↓DL.dJoin, ↓DL.dStrip, ↓DL.wSplit, ↓DL.dIntX, ↓DL.dInF, ↓DL.dInS, ↓DL.seqOf, ↓DL.wPar3, ↓DL.wFld, ↓DL.fldD, ↓DL.wSetF, ↓DL.setFD, ↓DL.wAugF, ↓DL.wMeth, ↓DL.recvD, ↓DL.wMake, ↓DL.fillP, ↓DL.wAsg2, ↓DL.gFldD, ↓DL.gStD, ↓DL.starV, ↓DL.gCs, ↓DL.gNl, ↓DL.gTp, Nat.add_zero, List.append_nil, List.zipWith_nil_left, List.zipWith_cons_cons, List.getD_cons_zero, ↓DL.wYes, reduceCtorEq, ↓DL.dEqX, ↓DL.dInD, DL.dataS_rl, DL.dataS_tup, DL.dataS_int, DL.dataS_str, DL.dataS_non, DL.dataD_nil, DL.dataD_ti, DL.dataD_li, ↓DL.isL2, ↓DL.dCountX, ↓DL.dIndexX, Option.isSome_some, ↓DL.dStrX, e2, idx, aw, flatD, flatDs, inV, eqV, List.any_cons, List.any_nil]
      unfold toldD at h2
      have fin : Q d S1 → Dr Q d S1 := fun q => ⟨S1, Le.refl _, q⟩
      cases hat : e.at_ with
      | none =>
        rw [hat] at h2
        dsimp only at h2
        split at h2
        · cases h2
        · rename_i hn4
          cases h2
          simp only [List.mem_cons, List.not_mem_nil, or_false, not_or] at hn4
          obtain ⟨n1, n2, n3, n4⟩ := hn4
          rw [if_neg (by simp [n1])]
          (try simp only [↓DL.wSeq, ↓DL.wSlT, ↓DL.wNo, ↓DL.wPart, ↓DL.dSlT, ↓DL.dCat, ↓DL.dListT, ↓DL.wFor, ↓DL.iR1, ↓DL.iR2, ↓DL.iTp, ↓DL.iLs, ↓DL.iNw, ↓DL.iLn, ↓DL.wNext, ↓DL.wIf, ↓DL.wRet, ↓DL.wRetN, ↓DL.wDrop, ↓DL.wAsg, ↓DL.gNm, ↓DL.wPar, ↓DL.wVar, ↓DL.wC, ↓DL.wOp, ↓DL.wUn, ↓DL.wTst, ↓DL.wChain, ↓DL.wAnd, ↓DL.wOr, ↓DL.wNot, ↓DL.wAndV, ↓DL.wOrV, ↓DL.wNotV, ↓DL.wIfE, ↓DL.wNil, ↓DL.wCons, ↓DL.wTup, ↓DL.wLst, ↓DL.wNew, ↓DL.wDer, ↓DL.wVL, ↓DL.wVLL, ↓DL.wALL, ↓DL.wCall, ↓DL.wIsa, ↓DL.wRaise, ↓DL.isB, ↓DL.dI0, ↓DL.dI, ↓DL.dU, ↓DL.dLen, ↓DL.dIx, ↓DL.gSubD, ↓DL.setD, ↓DL.wBM, ↓DL.isL, ↓DL.onL, ↓DL.dPopAt, ↓DL.dAppend, ↓DL.wIxV, ↓DL.wEqVL, ↓DL.wEqL, ↓DL.dEqS, ↓DL.dNeS, ↓DL.startD, List.map_cons, List.map_nil, List.length_cons, List.length_nil, List.cons_append, List.nil_append, List.replicate_succ, List.replicate_zero, List.getElem?_cons_zero, List.getElem?_cons_succ, List.set_cons_zero, List.set_cons_succ, Nat.reduceAdd, Nat.reduceSub, Nat.sub_self, ↓DL.kindD, ↓DL.dIsN, ↓DL.dNotN, ↓DL.isaB, String.reduceBEq, Bool.or_false, Bool.false_or, Bool.true_or, Bool.or_true, Bool.and_true, Bool.and_false, Bool.true_and, Bool.false_and, decide_true, decide_false, ↓DL.isNon, if_true, if_false, Bool.not_true, Bool.not_false, Bool.false_eq_true, reduceIte, true_and, and_true, ↓DL.dAddX, ↓DL.dMulX, ↓DL.dIxX, ↓DL.wSlX, ↓DL.dSlX, ↓DL.wSlL2, ↓DL.withL_rl, ↓DL.lsOf, ↓DL.wDerL, ↓DL.wFz, ↓DL.wFzR, ↓DL.frzD, ↓DL.wSide, ↓DL.wCatX, ↓DL.dEqA, ↓DL.scalEq, ↓DL.eqB, ↓DL.iLq, ↓DL.iSg, ↓DL.iEn, ↓DL.wM1, ↓DL.isStr, ↓DL.dJoin, ↓DL.dStrip, ↓DL.wSplit, ↓DL.dIntX, ↓DL.dInF, ↓DL.dInS, ↓DL.seqOf, ↓DL.wPar3, ↓DL.wFld, ↓DL.fldD, ↓DL.wSetF, ↓DL.setFD, ↓DL.wAugF, ↓DL.wMeth, ↓DL.recvD, ↓DL.wMake, ↓DL.fillP, ↓DL.wAsg2, ↓DL.gFldD, ↓DL.gStD, ↓DL.starV, ↓DL.gCs, ↓DL.gNl, ↓DL.gTp, Nat.add_zero, List.append_nil, List.zipWith_nil_left, List.zipWith_cons_cons, List.getD_cons_zero, ↓DL.wYes, reduceCtorEq, ↓DL.dEqX, ↓DL.dInD, DL.dataS_rl, DL.dataS_tup, DL.dataS_int, DL.dataS_str, DL.dataS_non, DL.dataD_nil, DL.dataD_ti, DL.dataD_li, ↓DL.isL2, ↓DL.dCountX, ↓DL.dIndexX, Option.isSome_some, ↓DL.dStrX, flatD, flatDs, inV, eqV, List.any_cons, List.any_nil])
          rw [if_neg (by simp [Ne.symm n2, Ne.symm n3])]
          (try simp only [↓DL.wSeq, ↓DL.wSlT, ↓DL.wNo, ↓DL.wPart, ↓DL.dSlT, ↓DL.dCat, ↓DL.dListT, ↓DL.wFor, ↓DL.iR1, ↓DL.iR2, ↓DL.iTp, ↓DL.iLs, ↓DL.iNw, ↓DL.iLn, ↓DL.wNext, ↓DL.wIf, ↓DL.wRet, ↓DL.wRetN, ↓DL.wDrop, ↓DL.wAsg, ↓DL.gNm, ↓DL.wPar, ↓DL.wVar, ↓DL.wC, ↓DL.wOp, ↓DL.wUn, ↓DL.wTst, ↓DL.wChain, ↓DL.wAnd, ↓DL.wOr, ↓DL.wNot, ↓DL.wAndV, ↓DL.wOrV, ↓DL.wNotV, ↓DL.wIfE, ↓DL.wNil, ↓DL.wCons, ↓DL.wTup, ↓DL.wLst, ↓DL.wNew, ↓DL.wDer, ↓DL.wVL, ↓DL.wVLL, ↓DL.wALL, ↓DL.wCall, ↓DL.wIsa, ↓DL.wRaise, ↓DL.isB, ↓DL.dI0, ↓DL.dI, ↓DL.dU, ↓DL.dLen, ↓DL.dIx, ↓DL.gSubD, ↓DL.setD, ↓DL.wBM, ↓DL.isL, ↓DL.onL, ↓DL.dPopAt, ↓DL.dAppend, ↓DL.wIxV, ↓DL.wEqVL, ↓DL.wEqL, ↓DL.dEqS, ↓DL.dNeS, ↓DL.startD, List.map_cons, List.map_nil, List.length_cons, List.length_nil, List.cons_append, List.nil_append, List.replicate_succ, List.replicate_zero, List.getElem?_cons_zero, List.getElem?_cons_succ, List.set_cons_zero, List.set_cons_succ, Nat.reduceAdd, Nat.reduceSub, Nat.sub_self, ↓DL.kindD, ↓DL.dIsN, ↓DL.dNotN, ↓DL.isaB, String.reduceBEq, Bool.or_false, Bool.false_or, Bool.true_or, Bool.or_true, Bool.and_true, Bool.and_false, Bool.true_and, Bool.false_and, decide_true, decide_false, ↓DL.isNon, if_true, if_false, Bool.not_true, Bool.not_false, Bool.false_eq_true, reduceIte, true_and, and_true, ↓DL.dAddX, ↓DL.dMulX, ↓DL.dIxX, ↓DL.wSlX, ↓DL.dSlX, ↓DL.wSlL2, ↓DL.withL_rl, ↓DL.lsOf, ↓DL.wDerL, ↓DL.wFz, ↓DL.wFzR, ↓DL.frzD, ↓DL.wSide, ↓DL.wCatX, ↓DL.dEqA, ↓DL.scalEq, ↓DL.eqB, ↓DL.iLq, ↓DL.iSg, ↓DL.iEn, ↓DL.wM1, ↓DL.isStr, ↓DL.dJoin, ↓DL.dStrip, ↓DL.wSplit, ↓DL.dIntX, ↓DL.dInF, ↓DL.dInS, ↓DL.seqOf, ↓DL.wPar3, ↓DL.wFld, ↓DL.fldD, ↓DL.wSetF, ↓DL.setFD, ↓DL.wAugF, ↓DL.wMeth, ↓DL.recvD, ↓DL.wMake, ↓DL.fillP, ↓DL.wAsg2, ↓DL.gFldD, ↓DL.gStD, ↓DL.starV, ↓DL.gCs, ↓DL.gNl, ↓DL.gTp, Nat.add_zero, List.append_nil, List.zipWith_nil_left, List.zipWith_cons_cons, List.getD_cons_zero, ↓DL.wYes, reduceCtorEq, ↓DL.dEqX, ↓DL.dInD, DL.dataS_rl, DL.dataS_tup, DL.dataS_int, DL.dataS_str, DL.dataS_non, DL.dataD_nil, DL.dataD_ti, DL.dataD_li, ↓DL.isL2, ↓DL.dCountX, ↓DL.dIndexX, Option.isSome_some, ↓DL.dStrX])
          rw [if_neg (by simp [n4])]
          (try simp only [↓DL.wSeq, ↓DL.wSlT, ↓DL.wNo, ↓DL.wPart, ↓DL.dSlT, ↓DL.dCat, ↓DL.dListT, ↓DL.wFor, ↓DL.iR1, ↓DL.iR2, ↓DL.iTp, ↓DL.iLs, ↓DL.iNw, ↓DL.iLn, ↓DL.wNext, ↓DL.wIf, ↓DL.wRet, ↓DL.wRetN, ↓DL.wDrop, ↓DL.wAsg, ↓DL.gNm, ↓DL.wPar, ↓DL.wVar, ↓DL.wC, ↓DL.wOp, ↓DL.wUn, ↓DL.wTst, ↓DL.wChain, ↓DL.wAnd, ↓DL.wOr, ↓DL.wNot, ↓DL.wAndV, ↓DL.wOrV, ↓DL.wNotV, ↓DL.wIfE, ↓DL.wNil, ↓DL.wCons, ↓DL.wTup, ↓DL.wLst, ↓DL.wNew, ↓DL.wDer, ↓DL.wVL, ↓DL.wVLL, ↓DL.wALL, ↓DL.wCall, ↓DL.wIsa, ↓DL.wRaise, ↓DL.isB, ↓DL.dI0, ↓DL.dI, ↓DL.dU, ↓DL.dLen, ↓DL.dIx, ↓DL.gSubD, ↓DL.setD, ↓DL.wBM, ↓DL.isL, ↓DL.onL, ↓DL.dPopAt, ↓DL.dAppend, ↓DL.wIxV, ↓DL.wEqVL, ↓DL.wEqL, ↓DL.dEqS, ↓DL.dNeS, ↓DL.startD, List.map_cons, List.map_nil, List.length_cons, List.length_nil, List.cons_append, List.nil_append, List.replicate_succ, List.replicate_zero, List.getElem?_cons_zero, List.getElem?_cons_succ, List.set_cons_zero, List.set_cons_succ, Nat.reduceAdd, Nat.reduceSub, Nat.sub_self, ↓DL.kindD, ↓DL.dIsN, ↓DL.dNotN, ↓DL.isaB, String.reduceBEq, Bool.or_false, Bool.false_or, Bool.true_or, Bool.or_true, Bool.and_true, Bool.and_false, Bool.true_and, Bool.false_and, decide_true, decide_false, ↓DL.isNon, if_true, if_false, Bool.not_true, Bool.not_false, Bool.false_eq_true, reduceIte, true_and, and_true, ↓DL.dAddX, ↓DL.dMulX, ↓DL.dIxX, ↓DL.wSlX, ↓DL.dSlX, ↓DL.wSlL2, ↓DL.withL_rl, ↓DL.lsOf, ↓DL.wDerL, ↓DL.wFz, ↓DL.wFzR, ↓DL.frzD, ↓DL.wSide, ↓DL.wCatX, ↓DL.dEqA, ↓DL.scalEq, ↓DL.eqB, ↓DL.iLq, ↓DL.iSg, ↓DL.iEn, ↓DL.wM1, ↓DL.isStr, ↓DL.dJoin, ↓DL.dStrip, ↓DL.wSplit, ↓DL.dIntX, ↓DL.dInF, ↓DL.dInS, ↓DL.seqOf, ↓DL.wPar3, ↓DL.wFld, ↓DL.fldD, ↓DL.wSetF, ↓DL.setFD, ↓DL.wAugF, ↓DL.wMeth, ↓DL.recvD, ↓DL.wMake, ↓DL.fillP, ↓DL.wAsg2, ↓DL.gFldD, ↓DL.gStD, ↓DL.starV, ↓DL.gCs, ↓DL.gNl, ↓DL.gTp, Nat.add_zero, List.append_nil, List.zipWith_nil_left, List.zipWith_cons_cons, List.getD_cons_zero, ↓DL.wYes, reduceCtorEq, ↓DL.dEqX, ↓DL.dInD, DL.dataS_rl, DL.dataS_tup, DL.dataS_int, DL.dataS_str, DL.dataS_non, DL.dataD_nil, DL.dataD_ti, DL.dataD_li, ↓DL.isL2, ↓DL.dCountX, ↓DL.dIndexX, Option.isSome_some, ↓DL.dStrX])
          first | exact ⟨by decide, fin h3⟩ | exact ⟨by decide, by decide, fin h3⟩
      | some dd =>
        rw [hat] at h2
        dsimp only at h2
        split at h2
        · rename_i fs q2
          split at h2
          · rename_i n1
            rw [if_pos (by simp [n1])]
            (try simp only [↓DL.wSeq, ↓DL.wSlT, ↓DL.wNo, ↓DL.wPart, ↓DL.dSlT, ↓DL.dCat, ↓DL.dListT, ↓DL.wFor, ↓DL.iR1, ↓DL.iR2, ↓DL.iTp, ↓DL.iLs, ↓DL.iNw, ↓DL.iLn, ↓DL.wNext, ↓DL.wIf, ↓DL.wRet, ↓DL.wRetN, ↓DL.wDrop, ↓DL.wAsg, ↓DL.gNm, ↓DL.wPar, ↓DL.wVar, ↓DL.wC, ↓DL.wOp, ↓DL.wUn, ↓DL.wTst, ↓DL.wChain, ↓DL.wAnd, ↓DL.wOr, ↓DL.wNot, ↓DL.wAndV, ↓DL.wOrV, ↓DL.wNotV, ↓DL.wIfE, ↓DL.wNil, ↓DL.wCons, ↓DL.wTup, ↓DL.wLst, ↓DL.wNew, ↓DL.wDer, ↓DL.wVL, ↓DL.wVLL, ↓DL.wALL, ↓DL.wCall, ↓DL.wIsa, ↓DL.wRaise, ↓DL.isB, ↓DL.dI0, ↓DL.dI, ↓DL.dU, ↓DL.dLen, ↓DL.dIx, ↓DL.gSubD, ↓DL.setD, ↓DL.wBM, ↓DL.isL, ↓DL.onL, ↓DL.dPopAt, ↓DL.dAppend, ↓DL.wIxV, ↓DL.wEqVL, ↓DL.wEqL, ↓DL.dEqS, ↓DL.dNeS, ↓DL.startD, List.map_cons, List.map_nil, List.length_cons, List.length_nil, List.cons_append, List.nil_append, List.replicate_succ, List.replicate_zero, List.getElem?_cons_zero, List.getElem?_cons_succ, List.set_cons_zero, List.set_cons_succ, Nat.reduceAdd, Nat.reduceSub, Nat.sub_self, ↓DL.kindD, ↓DL.dIsN, ↓DL.dNotN, ↓DL.isaB, String.reduceBEq, Bool.or_false, Bool.false_or, Bool.true_or, Bool.or_true, Bool.and_true, Bool.and_false, Bool.true_and, Bool.false_and, decide_true, decide_false, ↓DL.isNon, if_true, if_false, Bool.not_true, Bool.not_false, Bool.false_eq_true, reduceIte, true_and, and_true, ↓DL.dAddX, ↓DL.dMulX, ↓DL.dIxX, ↓DL.wSlX, ↓DL.dSlX, ↓DL.wSlL2, ↓DL.withL_rl, ↓DL.lsOf, ↓DL.wDerL, ↓DL.wFz, ↓DL.wFzR, ↓DL.frzD, ↓DL.wSide, ↓DL.wCatX, ↓DL.dEqA, ↓DL.scalEq, ↓DL.eqB, ↓DL.iLq, ↓DL.iSg, ↓DL.iEn, ↓DL.wM1, ↓DL.isStr, ↓DL.dJoin, ↓DL.dStrip, ↓DL.wSplit, ↓DL.dIntX, ↓DL.dInF, ↓DL.dInS, ↓DL.seqOf, ↓DL.wPar3, ↓DL.wFld, ↓DL.fldD, ↓DL.wSetF, ↓DL.setFD, ↓DL.wAugF, ↓DL.wMeth, ↓DL.recvD, ↓DL.wMake, ↓DL.fillP, ↓DL.wAsg2, ↓DL.gFldD, ↓DL.gStD, ↓DL.starV, ↓DL.gCs, ↓DL.gNl, ↓DL.gTp, Nat.add_zero, List.append_nil, List.zipWith_nil_left, List.zipWith_cons_cons, List.getD_cons_zero, ↓DL.wYes, reduceCtorEq, ↓DL.dEqX, ↓DL.dInD, DL.dataS_rl, DL.dataS_tup, DL.dataS_int, DL.dataS_str, DL.dataS_non, DL.dataD_nil, DL.dataD_ti, DL.dataD_li, ↓DL.isL2, ↓DL.dCountX, ↓DL.dIndexX, Option.isSome_some, ↓DL.dStrX, ↓wXf, hat, q2])
            split at h2
            · rename_i x y l1 l2
              cases h2
              rw [l1, l2]
              first | exact ⟨by decide, fin h3⟩ | exact ⟨by decide, by decide, fin h3⟩
            · cases h2
          · rename_i n1
            rw [if_neg (by simp [n1])]
            (try simp only [↓DL.wSeq, ↓DL.wSlT, ↓DL.wNo, ↓DL.wPart, ↓DL.dSlT, ↓DL.dCat, ↓DL.dListT, ↓DL.wFor, ↓DL.iR1, ↓DL.iR2, ↓DL.iTp, ↓DL.iLs, ↓DL.iNw, ↓DL.iLn, ↓DL.wNext, ↓DL.wIf, ↓DL.wRet, ↓DL.wRetN, ↓DL.wDrop, ↓DL.wAsg, ↓DL.gNm, ↓DL.wPar, ↓DL.wVar, ↓DL.wC, ↓DL.wOp, ↓DL.wUn, ↓DL.wTst, ↓DL.wChain, ↓DL.wAnd, ↓DL.wOr, ↓DL.wNot, ↓DL.wAndV, ↓DL.wOrV, ↓DL.wNotV, ↓DL.wIfE, ↓DL.wNil, ↓DL.wCons, ↓DL.wTup, ↓DL.wLst, ↓DL.wNew, ↓DL.wDer, ↓DL.wVL, ↓DL.wVLL, ↓DL.wALL, ↓DL.wCall, ↓DL.wIsa, ↓DL.wRaise, ↓DL.isB, ↓DL.dI0, ↓DL.dI, ↓DL.dU, ↓DL.dLen, ↓DL.dIx, ↓DL.gSubD, ↓DL.setD, ↓DL.wBM, ↓DL.isL, ↓DL.onL, ↓DL.dPopAt, ↓DL.dAppend, ↓DL.wIxV, ↓DL.wEqVL, ↓DL.wEqL, ↓DL.dEqS, ↓DL.dNeS, ↓DL.startD, List.map_cons, List.map_nil, List.length_cons, List.length_nil, List.cons_append, List.nil_append, List.replicate_succ, List.replicate_zero, List.getElem?_cons_zero, List.getElem?_cons_succ, List.set_cons_zero, List.set_cons_succ, Nat.reduceAdd, Nat.reduceSub, Nat.sub_self, ↓DL.kindD, ↓DL.dIsN, ↓DL.dNotN, ↓DL.isaB, String.reduceBEq, Bool.or_false, Bool.false_or, Bool.true_or, Bool.or_true, Bool.and_true, Bool.and_false, Bool.true_and, Bool.false_and, decide_true, decide_false, ↓DL.isNon, if_true, if_false, Bool.not_true, Bool.not_false, Bool.false_eq_true, reduceIte, true_and, and_true, ↓DL.dAddX, ↓DL.dMulX, ↓DL.dIxX, ↓DL.wSlX, ↓DL.dSlX, ↓DL.wSlL2, ↓DL.withL_rl, ↓DL.lsOf, ↓DL.wDerL, ↓DL.wFz, ↓DL.wFzR, ↓DL.frzD, ↓DL.wSide, ↓DL.wCatX, ↓DL.dEqA, ↓DL.scalEq, ↓DL.eqB, ↓DL.iLq, ↓DL.iSg, ↓DL.iEn, ↓DL.wM1, ↓DL.isStr, ↓DL.dJoin, ↓DL.dStrip, ↓DL.wSplit, ↓DL.dIntX, ↓DL.dInF, ↓DL.dInS, ↓DL.seqOf, ↓DL.wPar3, ↓DL.wFld, ↓DL.fldD, ↓DL.wSetF, ↓DL.setFD, ↓DL.wAugF, ↓DL.wMeth, ↓DL.recvD, ↓DL.wMake, ↓DL.fillP, ↓DL.wAsg2, ↓DL.gFldD, ↓DL.gStD, ↓DL.starV, ↓DL.gCs, ↓DL.gNl, ↓DL.gTp, Nat.add_zero, List.append_nil, List.zipWith_nil_left, List.zipWith_cons_cons, List.getD_cons_zero, ↓DL.wYes, reduceCtorEq, ↓DL.dEqX, ↓DL.dInD, DL.dataS_rl, DL.dataS_tup, DL.dataS_int, DL.dataS_str, DL.dataS_non, DL.dataD_nil, DL.dataD_ti, DL.dataD_li, ↓DL.isL2, ↓DL.dCountX, ↓DL.dIndexX, Option.isSome_some, ↓DL.dStrX, flatD, flatDs, inV, eqV, List.any_cons, List.any_nil])
            split at h2
            · rename_i n2
              rw [if_pos (by simp [n2])]
              (try simp only [↓DL.wSeq, ↓DL.wSlT, ↓DL.wNo, ↓DL.wPart, ↓DL.dSlT, ↓DL.dCat, ↓DL.dListT, ↓DL.wFor, ↓DL.iR1, ↓DL.iR2, ↓DL.iTp, ↓DL.iLs, ↓DL.iNw, ↓DL.iLn, ↓DL.wNext, ↓DL.wIf, ↓DL.wRet, ↓DL.wRetN, ↓DL.wDrop, ↓DL.wAsg, ↓DL.gNm, ↓DL.wPar, ↓DL.wVar, ↓DL.wC, ↓DL.wOp, ↓DL.wUn, ↓DL.wTst, ↓DL.wChain, ↓DL.wAnd, ↓DL.wOr, ↓DL.wNot, ↓DL.wAndV, ↓DL.wOrV, ↓DL.wNotV, ↓DL.wIfE, ↓DL.wNil, ↓DL.wCons, ↓DL.wTup, ↓DL.wLst, ↓DL.wNew, ↓DL.wDer, ↓DL.wVL, ↓DL.wVLL, ↓DL.wALL, ↓DL.wCall, ↓DL.wIsa, ↓DL.wRaise, ↓DL.isB, ↓DL.dI0, ↓DL.dI, ↓DL.dU, ↓DL.dLen, ↓DL.dIx, ↓DL.gSubD, ↓DL.setD, ↓DL.wBM, ↓DL.isL, ↓DL.onL, ↓DL.dPopAt, ↓DL.dAppend, ↓DL.wIxV, ↓DL.wEqVL, ↓DL.wEqL, ↓DL.dEqS, ↓DL.dNeS, ↓DL.startD, List.map_cons, List.map_nil, List.length_cons, List.length_nil, List.cons_append, List.nil_append, List.replicate_succ, List.replicate_zero, List.getElem?_cons_zero, List.getElem?_cons_succ, List.set_cons_zero, List.set_cons_succ, Nat.reduceAdd, Nat.reduceSub, Nat.sub_self, ↓DL.kindD, ↓DL.dIsN, ↓DL.dNotN, ↓DL.isaB, String.reduceBEq, Bool.or_false, Bool.false_or, Bool.true_or, Bool.or_true, Bool.and_true, Bool.and_false, Bool.true_and, Bool.false_and, decide_true, decide_false, ↓DL.isNon, if_true, if_false, Bool.not_true, Bool.not_false, Bool.false_eq_true, reduceIte, true_and, and_true, ↓DL.dAddX, ↓DL.dMulX, ↓DL.dIxX, ↓DL.wSlX, ↓DL.dSlX, ↓DL.wSlL2, ↓DL.withL_rl, ↓DL.lsOf, ↓DL.wDerL, ↓DL.wFz, ↓DL.wFzR, ↓DL.frzD, ↓DL.wSide, ↓DL.wCatX, ↓DL.dEqA, ↓DL.scalEq, ↓DL.eqB, ↓DL.iLq, ↓DL.iSg, ↓DL.iEn, ↓DL.wM1, ↓DL.isStr, ↓DL.dJoin, ↓DL.dStrip, ↓DL.wSplit, ↓DL.dIntX, ↓DL.dInF, ↓DL.dInS, ↓DL.seqOf, ↓DL.wPar3, ↓DL.wFld, ↓DL.fldD, ↓DL.wSetF, ↓DL.setFD, ↓DL.wAugF, ↓DL.wMeth, ↓DL.recvD, ↓DL.wMake, ↓DL.fillP, ↓DL.wAsg2, ↓DL.gFldD, ↓DL.gStD, ↓DL.starV, ↓DL.gCs, ↓DL.gNl, ↓DL.gTp, Nat.add_zero, List.append_nil, List.zipWith_nil_left, List.zipWith_cons_cons, List.getD_cons_zero, ↓DL.wYes, reduceCtorEq, ↓DL.dEqX, ↓DL.dInD, DL.dataS_rl, DL.dataS_tup, DL.dataS_int, DL.dataS_str, DL.dataS_non, DL.dataD_nil, DL.dataD_ti, DL.dataD_li, ↓DL.isL2, ↓DL.dCountX, ↓DL.dIndexX, Option.isSome_some, ↓DL.dStrX])
              rw [if_pos (by simp [n2])]
              (try simp only [↓DL.wSeq, ↓DL.wSlT, ↓DL.wNo, ↓DL.wPart, ↓DL.dSlT, ↓DL.dCat, ↓DL.dListT, ↓DL.wFor, ↓DL.iR1, ↓DL.iR2, ↓DL.iTp, ↓DL.iLs, ↓DL.iNw, ↓DL.iLn, ↓DL.wNext, ↓DL.wIf, ↓DL.wRet, ↓DL.wRetN, ↓DL.wDrop, ↓DL.wAsg, ↓DL.gNm, ↓DL.wPar, ↓DL.wVar, ↓DL.wC, ↓DL.wOp, ↓DL.wUn, ↓DL.wTst, ↓DL.wChain, ↓DL.wAnd, ↓DL.wOr, ↓DL.wNot, ↓DL.wAndV, ↓DL.wOrV, ↓DL.wNotV, ↓DL.wIfE, ↓DL.wNil, ↓DL.wCons, ↓DL.wTup, ↓DL.wLst, ↓DL.wNew, ↓DL.wDer, ↓DL.wVL, ↓DL.wVLL, ↓DL.wALL, ↓DL.wCall, ↓DL.wIsa, ↓DL.wRaise, ↓DL.isB, ↓DL.dI0, ↓DL.dI, ↓DL.dU, ↓DL.dLen, ↓DL.dIx, ↓DL.gSubD, ↓DL.setD, ↓DL.wBM, ↓DL.isL, ↓DL.onL, ↓DL.dPopAt, ↓DL.dAppend, ↓DL.wIxV, ↓DL.wEqVL, ↓DL.wEqL, ↓DL.dEqS, ↓DL.dNeS, ↓DL.startD, List.map_cons, List.map_nil, List.length_cons, List.length_nil, List.cons_append, List.nil_append, List.replicate_succ, List.replicate_zero, List.getElem?_cons_zero, List.getElem?_cons_succ, List.set_cons_zero, List.set_cons_succ, Nat.reduceAdd, Nat.reduceSub, Nat.sub_self, ↓DL.kindD, ↓DL.dIsN, ↓DL.dNotN, ↓DL.isaB, String.reduceBEq, Bool.or_false, Bool.false_or, Bool.true_or, Bool.or_true, Bool.and_true, Bool.and_false, Bool.true_and, Bool.false_and, decide_true, decide_false, ↓DL.isNon, if_true, if_false, Bool.not_true, Bool.not_false, Bool.false_eq_true, reduceIte, true_and, and_true, ↓DL.dAddX, ↓DL.dMulX, ↓DL.dIxX, ↓DL.wSlX, ↓DL.dSlX, ↓DL.wSlL2, ↓DL.withL_rl, ↓DL.lsOf, ↓DL.wDerL, ↓DL.wFz, ↓DL.wFzR, ↓DL.frzD, ↓DL.wSide, ↓DL.wCatX, ↓DL.dEqA, ↓DL.scalEq, ↓DL.eqB, ↓DL.iLq, ↓DL.iSg, ↓DL.iEn, ↓DL.wM1, ↓DL.isStr, ↓DL.dJoin, ↓DL.dStrip, ↓DL.wSplit, ↓DL.dIntX, ↓DL.dInF, ↓DL.dInS, ↓DL.seqOf, ↓DL.wPar3, ↓DL.wFld, ↓DL.fldD, ↓DL.wSetF, ↓DL.setFD, ↓DL.wAugF, ↓DL.wMeth, ↓DL.recvD, ↓DL.wMake, ↓DL.fillP, ↓DL.wAsg2, ↓DL.gFldD, ↓DL.gStD, ↓DL.starV, ↓DL.gCs, ↓DL.gNl, ↓DL.gTp, Nat.add_zero, List.append_nil, List.zipWith_nil_left, List.zipWith_cons_cons, List.getD_cons_zero, ↓DL.wYes, reduceCtorEq, ↓DL.dEqX, ↓DL.dInD, DL.dataS_rl, DL.dataS_tup, DL.dataS_int, DL.dataS_str, DL.dataS_non, DL.dataD_nil, DL.dataD_ti, DL.dataD_li, ↓DL.isL2, ↓DL.dCountX, ↓DL.dIndexX, Option.isSome_some, ↓DL.dStrX, ↓wXf, hat, q2])
              split at h2
              · rename_i x l1
                cases h2
                rw [l1]
                first | exact ⟨by decide, fin h3⟩ | exact ⟨by decide, by decide, fin h3⟩
              · cases h2
            · rename_i n2
              split at h2
              · rename_i n3
                rw [if_pos (by simp [n3])]
                (try simp only [↓DL.wSeq, ↓DL.wSlT, ↓DL.wNo, ↓DL.wPart, ↓DL.dSlT, ↓DL.dCat, ↓DL.dListT, ↓DL.wFor, ↓DL.iR1, ↓DL.iR2, ↓DL.iTp, ↓DL.iLs, ↓DL.iNw, ↓DL.iLn, ↓DL.wNext, ↓DL.wIf, ↓DL.wRet, ↓DL.wRetN, ↓DL.wDrop, ↓DL.wAsg, ↓DL.gNm, ↓DL.wPar, ↓DL.wVar, ↓DL.wC, ↓DL.wOp, ↓DL.wUn, ↓DL.wTst, ↓DL.wChain, ↓DL.wAnd, ↓DL.wOr, ↓DL.wNot, ↓DL.wAndV, ↓DL.wOrV, ↓DL.wNotV, ↓DL.wIfE, ↓DL.wNil, ↓DL.wCons, ↓DL.wTup, ↓DL.wLst, ↓DL.wNew, ↓DL.wDer, ↓DL.wVL, ↓DL.wVLL, ↓DL.wALL, ↓DL.wCall, ↓DL.wIsa, ↓DL.wRaise, ↓DL.isB, ↓DL.dI0, ↓DL.dI, ↓DL.dU, ↓DL.dLen, ↓DL.dIx, ↓DL.gSubD, ↓DL.setD, ↓DL.wBM, ↓DL.isL, ↓DL.onL, ↓DL.dPopAt, ↓DL.dAppend, ↓DL.wIxV, ↓DL.wEqVL, ↓DL.wEqL, ↓DL.dEqS, ↓DL.dNeS, ↓DL.startD, List.map_cons, List.map_nil, List.length_cons, List.length_nil, List.cons_append, List.nil_append, List.replicate_succ, List.replicate_zero, List.getElem?_cons_zero, List.getElem?_cons_succ, List.set_cons_zero, List.set_cons_succ, Nat.reduceAdd, Nat.reduceSub, Nat.sub_self, ↓DL.kindD, ↓DL.dIsN, ↓DL.dNotN, ↓DL.isaB, String.reduceBEq, Bool.or_false, Bool.false_or, Bool.true_or, Bool.or_true, Bool.and_true, Bool.and_false, Bool.true_and, Bool.false_and, decide_true, decide_false, ↓DL.isNon, if_true, if_false, Bool.not_true, Bool.not_false, Bool.false_eq_true, reduceIte, true_and, and_true, ↓DL.dAddX, ↓DL.dMulX, ↓DL.dIxX, ↓DL.wSlX, ↓DL.dSlX, ↓DL.wSlL2, ↓DL.withL_rl, ↓DL.lsOf, ↓DL.wDerL, ↓DL.wFz, ↓DL.wFzR, ↓DL.frzD, ↓DL.wSide, ↓DL.wCatX, ↓DL.dEqA, ↓DL.scalEq, ↓DL.eqB, ↓DL.iLq, ↓DL.iSg, ↓DL.iEn, ↓DL.wM1, ↓DL.isStr, ↓DL.dJoin, ↓DL.dStrip, ↓DL.wSplit, ↓DL.dIntX, ↓DL.dInF, ↓DL.dInS, ↓DL.seqOf, ↓DL.wPar3, ↓DL.wFld, ↓DL.fldD, ↓DL.wSetF, ↓DL.setFD, ↓DL.wAugF, ↓DL.wMeth, ↓DL.recvD, ↓DL.wMake, ↓DL.fillP, ↓DL.wAsg2, ↓DL.gFldD, ↓DL.gStD, ↓DL.starV, ↓DL.gCs, ↓DL.gNl, ↓DL.gTp, Nat.add_zero, List.append_nil, List.zipWith_nil_left, List.zipWith_cons_cons, List.getD_cons_zero, ↓DL.wYes, reduceCtorEq, ↓DL.dEqX, ↓DL.dInD, DL.dataS_rl, DL.dataS_tup, DL.dataS_int, DL.dataS_str, DL.dataS_non, DL.dataD_nil, DL.dataD_ti, DL.dataD_li, ↓DL.isL2, ↓DL.dCountX, ↓DL.dIndexX, Option.isSome_some, ↓DL.dStrX])
                rw [if_neg (by simp [n2])]
                (try simp only [↓DL.wSeq, ↓DL.wSlT, ↓DL.wNo, ↓DL.wPart, ↓DL.dSlT, ↓DL.dCat, ↓DL.dListT, ↓DL.wFor, ↓DL.iR1, ↓DL.iR2, ↓DL.iTp, ↓DL.iLs, ↓DL.iNw, ↓DL.iLn, ↓DL.wNext, ↓DL.wIf, ↓DL.wRet, ↓DL.wRetN, ↓DL.wDrop, ↓DL.wAsg, ↓DL.gNm, ↓DL.wPar, ↓DL.wVar, ↓DL.wC, ↓DL.wOp, ↓DL.wUn, ↓DL.wTst, ↓DL.wChain, ↓DL.wAnd, ↓DL.wOr, ↓DL.wNot, ↓DL.wAndV, ↓DL.wOrV, ↓DL.wNotV, ↓DL.wIfE, ↓DL.wNil, ↓DL.wCons, ↓DL.wTup, ↓DL.wLst, ↓DL.wNew, ↓DL.wDer, ↓DL.wVL, ↓DL.wVLL, ↓DL.wALL, ↓DL.wCall, ↓DL.wIsa, ↓DL.wRaise, ↓DL.isB, ↓DL.dI0, ↓DL.dI, ↓DL.dU, ↓DL.dLen, ↓DL.dIx, ↓DL.gSubD, ↓DL.setD, ↓DL.wBM, ↓DL.isL, ↓DL.onL, ↓DL.dPopAt, ↓DL.dAppend, ↓DL.wIxV, ↓DL.wEqVL, ↓DL.wEqL, ↓DL.dEqS, ↓DL.dNeS, ↓DL.startD, List.map_cons, List.map_nil, List.length_cons, List.length_nil, List.cons_append, List.nil_append, List.replicate_succ, List.replicate_zero, List.getElem?_cons_zero, List.getElem?_cons_succ, List.set_cons_zero, List.set_cons_succ, Nat.reduceAdd, Nat.reduceSub, Nat.sub_self, ↓DL.kindD, ↓DL.dIsN, ↓DL.dNotN, ↓DL.isaB, String.reduceBEq, Bool.or_false, Bool.false_or, Bool.true_or, Bool.or_true, Bool.and_true, Bool.and_false, Bool.true_and, Bool.false_and, decide_true, decide_false, ↓DL.isNon, if_true, if_false, Bool.not_true, Bool.not_false, Bool.false_eq_true, reduceIte, true_and, and_true, ↓DL.dAddX, ↓DL.dMulX, ↓DL.dIxX, ↓DL.wSlX, ↓DL.dSlX, ↓DL.wSlL2, ↓DL.withL_rl, ↓DL.lsOf, ↓DL.wDerL, ↓DL.wFz, ↓DL.wFzR, ↓DL.frzD, ↓DL.wSide, ↓DL.wCatX, ↓DL.dEqA, ↓DL.scalEq, ↓DL.eqB, ↓DL.iLq, ↓DL.iSg, ↓DL.iEn, ↓DL.wM1, ↓DL.isStr, ↓DL.dJoin, ↓DL.dStrip, ↓DL.wSplit, ↓DL.dIntX, ↓DL.dInF, ↓DL.dInS, ↓DL.seqOf, ↓DL.wPar3, ↓DL.wFld, ↓DL.fldD, ↓DL.wSetF, ↓DL.setFD, ↓DL.wAugF, ↓DL.wMeth, ↓DL.recvD, ↓DL.wMake, ↓DL.fillP, ↓DL.wAsg2, ↓DL.gFldD, ↓DL.gStD, ↓DL.starV, ↓DL.gCs, ↓DL.gNl, ↓DL.gTp, Nat.add_zero, List.append_nil, List.zipWith_nil_left, List.zipWith_cons_cons, List.getD_cons_zero, ↓DL.wYes, reduceCtorEq, ↓DL.dEqX, ↓DL.dInD, DL.dataS_rl, DL.dataS_tup, DL.dataS_int, DL.dataS_str, DL.dataS_non, DL.dataD_nil, DL.dataD_ti, DL.dataD_li, ↓DL.isL2, ↓DL.dCountX, ↓DL.dIndexX, Option.isSome_some, ↓DL.dStrX, ↓wXf, hat, q2])
                split at h2
                · rename_i x l1
                  cases h2
                  rw [l1]
                  first | exact ⟨by decide, fin h3⟩ | exact ⟨by decide, by decide, fin h3⟩
                · cases h2
              · rename_i n3
                rw [if_neg (by simp [Ne.symm n2, Ne.symm n3])]
                (try simp only [↓DL.wSeq, ↓DL.wSlT, ↓DL.wNo, ↓DL.wPart, ↓DL.dSlT, ↓DL.dCat, ↓DL.dListT, ↓DL.wFor, ↓DL.iR1, ↓DL.iR2, ↓DL.iTp, ↓DL.iLs, ↓DL.iNw, ↓DL.iLn, ↓DL.wNext, ↓DL.wIf, ↓DL.wRet, ↓DL.wRetN, ↓DL.wDrop, ↓DL.wAsg, ↓DL.gNm, ↓DL.wPar, ↓DL.wVar, ↓DL.wC, ↓DL.wOp, ↓DL.wUn, ↓DL.wTst, ↓DL.wChain, ↓DL.wAnd, ↓DL.wOr, ↓DL.wNot, ↓DL.wAndV, ↓DL.wOrV, ↓DL.wNotV, ↓DL.wIfE, ↓DL.wNil, ↓DL.wCons, ↓DL.wTup, ↓DL.wLst, ↓DL.wNew, ↓DL.wDer, ↓DL.wVL, ↓DL.wVLL, ↓DL.wALL, ↓DL.wCall, ↓DL.wIsa, ↓DL.wRaise, ↓DL.isB, ↓DL.dI0, ↓DL.dI, ↓DL.dU, ↓DL.dLen, ↓DL.dIx, ↓DL.gSubD, ↓DL.setD, ↓DL.wBM, ↓DL.isL, ↓DL.onL, ↓DL.dPopAt, ↓DL.dAppend, ↓DL.wIxV, ↓DL.wEqVL, ↓DL.wEqL, ↓DL.dEqS, ↓DL.dNeS, ↓DL.startD, List.map_cons, List.map_nil, List.length_cons, List.length_nil, List.cons_append, List.nil_append, List.replicate_succ, List.replicate_zero, List.getElem?_cons_zero, List.getElem?_cons_succ, List.set_cons_zero, List.set_cons_succ, Nat.reduceAdd, Nat.reduceSub, Nat.sub_self, ↓DL.kindD, ↓DL.dIsN, ↓DL.dNotN, ↓DL.isaB, String.reduceBEq, Bool.or_false, Bool.false_or, Bool.true_or, Bool.or_true, Bool.and_true, Bool.and_false, Bool.true_and, Bool.false_and, decide_true, decide_false, ↓DL.isNon, if_true, if_false, Bool.not_true, Bool.not_false, Bool.false_eq_true, reduceIte, true_and, and_true, ↓DL.dAddX, ↓DL.dMulX, ↓DL.dIxX, ↓DL.wSlX, ↓DL.dSlX, ↓DL.wSlL2, ↓DL.withL_rl, ↓DL.lsOf, ↓DL.wDerL, ↓DL.wFz, ↓DL.wFzR, ↓DL.frzD, ↓DL.wSide, ↓DL.wCatX, ↓DL.dEqA, ↓DL.scalEq, ↓DL.eqB, ↓DL.iLq, ↓DL.iSg, ↓DL.iEn, ↓DL.wM1, ↓DL.isStr, ↓DL.dJoin, ↓DL.dStrip, ↓DL.wSplit, ↓DL.dIntX, ↓DL.dInF, ↓DL.dInS, ↓DL.seqOf, ↓DL.wPar3, ↓DL.wFld, ↓DL.fldD, ↓DL.wSetF, ↓DL.setFD, ↓DL.wAugF, ↓DL.wMeth, ↓DL.recvD, ↓DL.wMake, ↓DL.fillP, ↓DL.wAsg2, ↓DL.gFldD, ↓DL.gStD, ↓DL.starV, ↓DL.gCs, ↓DL.gNl, ↓DL.gTp, Nat.add_zero, List.append_nil, List.zipWith_nil_left, List.zipWith_cons_cons, List.getD_cons_zero, ↓DL.wYes, reduceCtorEq, ↓DL.dEqX, ↓DL.dInD, DL.dataS_rl, DL.dataS_tup, DL.dataS_int, DL.dataS_str, DL.dataS_non, DL.dataD_nil, DL.dataD_ti, DL.dataD_li, ↓DL.isL2, ↓DL.dCountX, ↓DL.dIndexX, Option.isSome_some, ↓DL.dStrX])
                split at h2
                · rename_i n4
                  rw [if_pos (by simp [n4])]
                  (try simp only [↓DL.wSeq, ↓DL.wSlT, ↓DL.wNo, ↓DL.wPart, ↓DL.dSlT, ↓DL.dCat, ↓DL.dListT, ↓DL.wFor, ↓DL.iR1, ↓DL.iR2, ↓DL.iTp, ↓DL.iLs, ↓DL.iNw, ↓DL.iLn, ↓DL.wNext, ↓DL.wIf, ↓DL.wRet, ↓DL.wRetN, ↓DL.wDrop, ↓DL.wAsg, ↓DL.gNm, ↓DL.wPar, ↓DL.wVar, ↓DL.wC, ↓DL.wOp, ↓DL.wUn, ↓DL.wTst, ↓DL.wChain, ↓DL.wAnd, ↓DL.wOr, ↓DL.wNot, ↓DL.wAndV, ↓DL.wOrV, ↓DL.wNotV, ↓DL.wIfE, ↓DL.wNil, ↓DL.wCons, ↓DL.wTup, ↓DL.wLst, ↓DL.wNew, ↓DL.wDer, ↓DL.wVL, ↓DL.wVLL, ↓DL.wALL, ↓DL.wCall, ↓DL.wIsa, ↓DL.wRaise, ↓DL.isB, ↓DL.dI0, ↓DL.dI, ↓DL.dU, ↓DL.dLen, ↓DL.dIx, ↓DL.gSubD, ↓DL.setD, ↓DL.wBM, ↓DL.isL, ↓DL.onL, ↓DL.dPopAt, ↓DL.dAppend, ↓DL.wIxV, ↓DL.wEqVL, ↓DL.wEqL, ↓DL.dEqS, ↓DL.dNeS, ↓DL.startD, List.map_cons, List.map_nil, List.length_cons, List.length_nil, List.cons_append, List.nil_append, List.replicate_succ, List.replicate_zero, List.getElem?_cons_zero, List.getElem?_cons_succ, List.set_cons_zero, List.set_cons_succ, Nat.reduceAdd, Nat.reduceSub, Nat.sub_self, ↓DL.kindD, ↓DL.dIsN, ↓DL.dNotN, ↓DL.isaB, String.reduceBEq, Bool.or_false, Bool.false_or, Bool.true_or, Bool.or_true, Bool.and_true, Bool.and_false, Bool.true_and, Bool.false_and, decide_true, decide_false, ↓DL.isNon, if_true, if_false, Bool.not_true, Bool.not_false, Bool.false_eq_true, reduceIte, true_and, and_true, ↓DL.dAddX, ↓DL.dMulX, ↓DL.dIxX, ↓DL.wSlX, ↓DL.dSlX, ↓DL.wSlL2, ↓DL.withL_rl, ↓DL.lsOf, ↓DL.wDerL, ↓DL.wFz, ↓DL.wFzR, ↓DL.frzD, ↓DL.wSide, ↓DL.wCatX, ↓DL.dEqA, ↓DL.scalEq, ↓DL.eqB, ↓DL.iLq, ↓DL.iSg, ↓DL.iEn, ↓DL.wM1, ↓DL.isStr, ↓DL.dJoin, ↓DL.dStrip, ↓DL.wSplit, ↓DL.dIntX, ↓DL.dInF, ↓DL.dInS, ↓DL.seqOf, ↓DL.wPar3, ↓DL.wFld, ↓DL.fldD, ↓DL.wSetF, ↓DL.setFD, ↓DL.wAugF, ↓DL.wMeth, ↓DL.recvD, ↓DL.wMake, ↓DL.fillP, ↓DL.wAsg2, ↓DL.gFldD, ↓DL.gStD, ↓DL.starV, ↓DL.gCs, ↓DL.gNl, ↓DL.gTp, Nat.add_zero, List.append_nil, List.zipWith_nil_left, List.zipWith_cons_cons, List.getD_cons_zero, ↓DL.wYes, reduceCtorEq, ↓DL.dEqX, ↓DL.dInD, DL.dataS_rl, DL.dataS_tup, DL.dataS_int, DL.dataS_str, DL.dataS_non, DL.dataD_nil, DL.dataD_ti, DL.dataD_li, ↓DL.isL2, ↓DL.dCountX, ↓DL.dIndexX, Option.isSome_some, ↓DL.dStrX, ↓wXf, hat, q2])
                  split at h2
                  · rename_i x l1
                    cases h2
                    rw [l1]
                    first | exact ⟨by decide, fin h3⟩ | exact ⟨by decide, by decide, fin h3⟩
                  · cases h2
                · cases h2
        · cases h2
    · exact h.elim
--CUT
def isNumD (d : D) (lo hi : Int) : Bool := match d with | .int i => decide (lo ≤ i) && decide (i ≤ hi) | _ => false
def kOk (S : Store) (d : D) : Prop := kindD S d ≠ none
def sp_is_number : SpD := fun ds S Q _ => match ds with | [d, .int lo, .int hi] => kOk S d ∧ Q (.bl (isNumD d lo hi)) S | _ => False
theorem sc_is_number : FnScope ["part", "low", "high"] ["part", "low", "high"] (defScope s_is_number) := ⟨rfl, rfl, rfl, by decide +kernel, rfl, by decide +kernel, by decide +kernel⟩
theorem ok_is_number (G : Def K mg "is_number" s_is_number ["part", "low", "high"]) (T : Txt K mg) : Cal P w K mg base "is_number" 1 ["part", "low", "high"] sp_is_number := by
  refine G.calD sc_is_number (fun ds S Q E h => ?_) fun f cdv A outer s H E hr => ⟨_, (dpss_one (dps_ret (dpe_and (dpe_isa (T := "int") (by decide) rfl T.b_isinstance bb_isinstance rfl T.b_int bb_int (dv 0)) (dpe_and (dpe_not (dpe_isa (T := "bool") (by decide) rfl T.b_isinstance bb_isinstance rfl T.b_bool bb_bool (dv 0))) (dpe_one (dpe_chain op_le op_le lr_cmp lr_cmp (dv 1) (dv 0) (dv 2))))))), ?_⟩
  · unfold sp_is_number at h; split at h <;> first | rfl | exact h.elim
  · intro ds S Q ED h
    unfold sp_is_number at h
    split at h
    · rename_i d lo hi
      obtain ⟨h1, h2⟩ := h
      have fin : ∀ b, isNumD d lo hi = b → Dr Q (.bl b) S := fun b e => ⟨S, Le.refl _, e ▸ h2⟩
      cases d with
      | int i =>
        simp only [↓DL.wSeq, ↓DL.wSlT, ↓DL.wNo, ↓DL.wPart, ↓DL.dSlT, ↓DL.dCat, ↓DL.dListT, ↓DL.wFor, ↓DL.iR1, ↓DL.iR2, ↓DL.iTp, ↓DL.iLs, ↓DL.iNw, ↓DL.iLn, ↓DL.wNext, ↓DL.wIf, ↓DL.wRet, ↓DL.wRetN, ↓DL.wDrop, ↓DL.wAsg, ↓DL.gNm, ↓DL.wPar, ↓DL.wVar, ↓DL.wC, ↓DL.wOp, ↓DL.wUn, ↓DL.wTst, ↓DL.wChain, ↓DL.wAnd, ↓DL.wOr, ↓DL.wNot, ↓DL.wAndV, ↓DL.wOrV, ↓DL.wNotV, ↓DL.wIfE, ↓DL.wNil, ↓DL.wCons, ↓DL.wTup, ↓DL.wLst, ↓DL.wNew, ↓DL.wDer, ↓DL.wVL, ↓DL.wVLL, ↓DL.wALL, ↓DL.wCall, ↓DL.wIsa, ↓DL.wRaise, ↓DL.isB, ↓DL.dI0, ↓DL.dI, ↓DL.dU, ↓DL.dLen, ↓DL.dIx, ↓DL.gSubD, ↓DL.setD, ↓DL.wBM, ↓DL.isL, ↓DL.onL, ↓DL.dPopAt, ↓DL.dAppend, ↓DL.wIxV, ↓DL.wEqVL, ↓DL.wEqL, ↓DL.dEqS, ↓DL.dNeS, ↓DL.startD, List.map_cons, List.map_nil, List.length_cons, List.length_nil, List.cons_append, List.nil_append, List.replicate_succ, List.replicate_zero, List.getElem?_cons_zero, List.getElem?_cons_succ, List.set_cons_zero, List.set_cons_succ, Nat.reduceAdd, Nat.reduceSub, Nat.sub_self, ↓DL.kindD, ↓DL.dIsN, ↓DL.dNotN, ↓DL.isaB, String.reduceBEq, Bool.or_false, Bool.false_or, Bool.true_or, Bool.or_true, Bool.and_true, Bool.and_false, Bool.true_and, Bool.false_and, decide_true, decide_false, ↓DL.isNon, if_true, if_false, Bool.not_true, Bool.not_false, Bool.false_eq_true, reduceIte, true_and, and_true, ↓DL.dAddX, ↓DL.dMulX, ↓DL.dIxX, ↓DL.wSlX, ↓DL.dSlX, ↓DL.wSlL2, ↓DL.withL_rl, ↓DL.lsOf, ↓DL.wDerL, ↓DL.wFz, ↓DL.wFzR, ↓DL.frzD, ↓DL.wSide, ↓DL.wCatX, ↓DL.dEqA, ↓DL.scalEq, ↓DL.eqB, ↓DL.iLq, ↓DL.iSg, ↓DL.iEn, ↓DL.wM1, ↓DL.isStr, ↓DL.dJoin, ↓DL.dStrip, ↓DL.wSplit, ↓DL.dIntX, ↓DL.dInF, ↓DL.dInS, ↓DL.seqOf, ↓DL.wPar3, ↓DL.wFld, ↓DL.fldD, ↓DL.wSetF, ↓DL.setFD, ↓DL.wAugF, ↓DL.wMeth, ↓DL.recvD, ↓DL.wMake, ↓DL.fillP, ↓DL.wAsg2, ↓DL.gFldD, ↓DL.gStD, ↓DL.starV, ↓DL.gCs, ↓DL.gNl, ↓DL.gTp, Nat.add_zero, List.append_nil, List.zipWith_nil_left, List.zipWith_cons_cons, List.getD_cons_zero, ↓DL.wYes, reduceCtorEq, ↓DL.dEqX, ↓DL.dInD, DL.dataS_rl, DL.dataS_tup, DL.dataS_int, DL.dataS_str, DL.dataS_non, DL.dataD_nil, DL.dataD_ti, DL.dataD_li, ↓DL.isL2, ↓DL.dCountX, ↓DL.dIndexX, Option.isSome_some, ↓DL.dStrX]
        by_cases h3 : lo ≤ i
        · simp only [h3, decide_true, reduceIte]
          exact fin _ (by simp [isNumD, h3])
        · simp only [h3, decide_false, Bool.false_eq_true, reduceIte]
          exact fin _ (by simp [isNumD, h3])
      | ref a =>
        unfold kOk kindD at h1
        dsimp only at h1
        simp only [↓DL.wSeq, ↓DL.wSlT, ↓DL.wNo, ↓DL.wPart, ↓DL.dSlT, ↓DL.dCat, ↓DL.dListT, ↓DL.wFor, ↓DL.iR1, ↓DL.iR2, ↓DL.iTp, ↓DL.iLs, ↓DL.iNw, ↓DL.iLn, ↓DL.wNext, ↓DL.wIf, ↓DL.wRet, ↓DL.wRetN, ↓DL.wDrop, ↓DL.wAsg, ↓DL.gNm, ↓DL.wPar, ↓DL.wVar, ↓DL.wC, ↓DL.wOp, ↓DL.wUn, ↓DL.wTst, ↓DL.wChain, ↓DL.wAnd, ↓DL.wOr, ↓DL.wNot, ↓DL.wAndV, ↓DL.wOrV, ↓DL.wNotV, ↓DL.wIfE, ↓DL.wNil, ↓DL.wCons, ↓DL.wTup, ↓DL.wLst, ↓DL.wNew, ↓DL.wDer, ↓DL.wVL, ↓DL.wVLL, ↓DL.wALL, ↓DL.wCall, ↓DL.wIsa, ↓DL.wRaise, ↓DL.isB, ↓DL.dI0, ↓DL.dI, ↓DL.dU, ↓DL.dLen, ↓DL.dIx, ↓DL.gSubD, ↓DL.setD, ↓DL.wBM, ↓DL.isL, ↓DL.onL, ↓DL.dPopAt, ↓DL.dAppend, ↓DL.wIxV, ↓DL.wEqVL, ↓DL.wEqL, ↓DL.dEqS, ↓DL.dNeS, ↓DL.startD, List.map_cons, List.map_nil, List.length_cons, List.length_nil, List.cons_append, List.nil_append, List.replicate_succ, List.replicate_zero, List.getElem?_cons_zero, List.getElem?_cons_succ, List.set_cons_zero, List.set_cons_succ, Nat.reduceAdd, Nat.reduceSub, Nat.sub_self, ↓DL.kindD, ↓DL.dIsN, ↓DL.dNotN, ↓DL.isaB, String.reduceBEq, Bool.or_false, Bool.false_or, Bool.true_or, Bool.or_true, Bool.and_true, Bool.and_false, Bool.true_and, Bool.false_and, decide_true, decide_false, ↓DL.isNon, if_true, if_false, Bool.not_true, Bool.not_false, Bool.false_eq_true, reduceIte, true_and, and_true, ↓DL.dAddX, ↓DL.dMulX, ↓DL.dIxX, ↓DL.wSlX, ↓DL.dSlX, ↓DL.wSlL2, ↓DL.withL_rl, ↓DL.lsOf, ↓DL.wDerL, ↓DL.wFz, ↓DL.wFzR, ↓DL.frzD, ↓DL.wSide, ↓DL.wCatX, ↓DL.dEqA, ↓DL.scalEq, ↓DL.eqB, ↓DL.iLq, ↓DL.iSg, ↓DL.iEn, ↓DL.wM1, ↓DL.isStr, ↓DL.dJoin, ↓DL.dStrip, ↓DL.wSplit, ↓DL.dIntX, ↓DL.dInF, ↓DL.dInS, ↓DL.seqOf, ↓DL.wPar3, ↓DL.wFld, ↓DL.fldD, ↓DL.wSetF, ↓DL.setFD, ↓DL.wAugF, ↓DL.wMeth, ↓DL.recvD, ↓DL.wMake, ↓DL.fillP, ↓DL.wAsg2, ↓DL.gFldD, ↓DL.gStD, ↓DL.starV, ↓DL.gCs, ↓DL.gNl, ↓DL.gTp, Nat.add_zero, List.append_nil, List.zipWith_nil_left, List.zipWith_cons_cons, List.getD_cons_zero, ↓DL.wYes, reduceCtorEq, ↓DL.dEqX, ↓DL.dInD, DL.dataS_rl, DL.dataS_tup, DL.dataS_int, DL.dataS_str, DL.dataS_non, DL.dataD_nil, DL.dataD_ti, DL.dataD_li, ↓DL.isL2, ↓DL.dCountX, ↓DL.dIndexX, Option.isSome_some, ↓DL.dStrX]
        split at h1 <;> first | (rename_i e; simp only [e, isaB, String.reduceBEq, Bool.or_false, Bool.false_eq_true, reduceIte, Bool.false_and, Bool.and_false]; exact fin _ rfl) | exact absurd rfl h1
      | fn L c => exact absurd rfl h1
      | fnS L c v => exact absurd rfl h1
      | kl xs => exact absurd rfl h1
      | _ =>
        simp only [↓DL.wSeq, ↓DL.wSlT, ↓DL.wNo, ↓DL.wPart, ↓DL.dSlT, ↓DL.dCat, ↓DL.dListT, ↓DL.wFor, ↓DL.iR1, ↓DL.iR2, ↓DL.iTp, ↓DL.iLs, ↓DL.iNw, ↓DL.iLn, ↓DL.wNext, ↓DL.wIf, ↓DL.wRet, ↓DL.wRetN, ↓DL.wDrop, ↓DL.wAsg, ↓DL.gNm, ↓DL.wPar, ↓DL.wVar, ↓DL.wC, ↓DL.wOp, ↓DL.wUn, ↓DL.wTst, ↓DL.wChain, ↓DL.wAnd, ↓DL.wOr, ↓DL.wNot, ↓DL.wAndV, ↓DL.wOrV, ↓DL.wNotV, ↓DL.wIfE, ↓DL.wNil, ↓DL.wCons, ↓DL.wTup, ↓DL.wLst, ↓DL.wNew, ↓DL.wDer, ↓DL.wVL, ↓DL.wVLL, ↓DL.wALL, ↓DL.wCall, ↓DL.wIsa, ↓DL.wRaise, ↓DL.isB, ↓DL.dI0, ↓DL.dI, ↓DL.dU, ↓DL.dLen, ↓DL.dIx, ↓DL.gSubD, ↓DL.setD, ↓DL.wBM, ↓DL.isL, ↓DL.onL, ↓DL.dPopAt, ↓DL.dAppend, ↓DL.wIxV, ↓DL.wEqVL, ↓DL.wEqL, ↓DL.dEqS, ↓DL.dNeS, ↓DL.startD, List.map_cons, List.map_nil, List.length_cons, List.length_nil, List.cons_append, List.nil_append, List.replicate_succ, List.replicate_zero, List.getElem?_cons_zero, List.getElem?_cons_succ, List.set_cons_zero, List.set_cons_succ, Nat.reduceAdd, Nat.reduceSub, Nat.sub_self, ↓DL.kindD, ↓DL.dIsN, ↓DL.dNotN, ↓DL.isaB, String.reduceBEq, Bool.or_false, Bool.false_or, Bool.true_or, Bool.or_true, Bool.and_true, Bool.and_false, Bool.true_and, Bool.false_and, decide_true, decide_false, ↓DL.isNon, if_true, if_false, Bool.not_true, Bool.not_false, Bool.false_eq_true, reduceIte, true_and, and_true, ↓DL.dAddX, ↓DL.dMulX, ↓DL.dIxX, ↓DL.wSlX, ↓DL.dSlX, ↓DL.wSlL2, ↓DL.withL_rl, ↓DL.lsOf, ↓DL.wDerL, ↓DL.wFz, ↓DL.wFzR, ↓DL.frzD, ↓DL.wSide, ↓DL.wCatX, ↓DL.dEqA, ↓DL.scalEq, ↓DL.eqB, ↓DL.iLq, ↓DL.iSg, ↓DL.iEn, ↓DL.wM1, ↓DL.isStr, ↓DL.dJoin, ↓DL.dStrip, ↓DL.wSplit, ↓DL.dIntX, ↓DL.dInF, ↓DL.dInS, ↓DL.seqOf, ↓DL.wPar3, ↓DL.wFld, ↓DL.fldD, ↓DL.wSetF, ↓DL.setFD, ↓DL.wAugF, ↓DL.wMeth, ↓DL.recvD, ↓DL.wMake, ↓DL.fillP, ↓DL.wAsg2, ↓DL.gFldD, ↓DL.gStD, ↓DL.starV, ↓DL.gCs, ↓DL.gNl, ↓DL.gTp, Nat.add_zero, List.append_nil, List.zipWith_nil_left, List.zipWith_cons_cons, List.getD_cons_zero, ↓DL.wYes, reduceCtorEq, ↓DL.dEqX, ↓DL.dInD, DL.dataS_rl, DL.dataS_tup, DL.dataS_int, DL.dataS_str, DL.dataS_non, DL.dataD_nil, DL.dataD_ti, DL.dataD_li, ↓DL.isL2, ↓DL.dCountX, ↓DL.dIndexX, Option.isSome_some, ↓DL.dStrX]
        exact fin _ rfl
    · exact h.elim
--HINT is_token | token | tup
def isTokD (d : D) (n : Int) : Bool := match d with | .tup xs => decide ((xs.length : Int) = n) && xs.all fun x => isNumD x 0 999 | _ => false
def kOks (S : Store) (d : D) : Prop := kOk S d ∧ ∀ xs, d = .tup xs → xs.length ≤ sizeLine ∧ ∀ x ∈ xs, kOk S x
def sp_is_token : SpD := fun ds S Q _ => match ds with | [d, .int n] => kOks S d ∧ Q (.bl (isTokD d n)) S | _ => False
theorem sc_is_token : FnScope ["token", "many", "count"] ["token", "many"] (defScope s_is_token) := ⟨rfl, rfl, rfl, by decide +kernel, rfl, by decide +kernel, by decide +kernel⟩
theorem ok_is_token (G : Def K mg "is_token" s_is_token ["token", "many"]) (T : Txt K mg) (c_is_number : Cal P w K mg base "is_number" 1 ["part", "low", "high"] sp_is_number) : Cal P w K mg base "is_token" 2 ["token", "many"] sp_is_token := by
  refine G.calD sc_is_token (fun ds S Q E h => ?_) fun f cdv A outer s H E hr => ⟨_, (dpss_cons (dps_if (dpw_pt (dpw_or (dpt_not (dpt_val (dpe_isa (T := "tuple") (by decide) rfl T.b_isinstance bb_isinstance rfl T.b_tuple bb_tuple (dv 0)))) (dpw_or1 (dpt_cmp (op_neA (hr.units)) lr_neA (dpe_ba call_len lc_len rfl T.b_len bb_len (dpa_cons (dv 0) dpa_nil)) (dv 1) (nomark _))))) (dpss_one (dps_ret dpe_bl)) dpss_nil)
    (dpss_one (dps_ret (dpe_not (dpe_bv (cr_any rfl) lc_any rfl T.b_any bb_any (dpv_new (dpl_lc (own := [("count", 2)]) rfl sc_is_token.nd (dpi_tup (dv 0)) (blkOk_by (own := [("count", 2)]) (by rfl)) (fun _ _ _ _ _ => (dpg_name (vs := [2]) (i := 2) sc_is_token.nd rfl (by first | exact Or.inl rfl | exact Or.inr rfl) (by decide))) (fun _ _ _ _ _ => dpts_nil) (fun _ _ _ _ _ => (dpe_not (dpe_cal c_is_number hr (by first | decide | omega) rfl takes0 (dpa_cons (dv 2) (dpa_cons dpe_int (dpa_cons (dpe_cst T.c_MOST_PUTS rfl) dpa_nil))))))))))))), ?_⟩
  · unfold sp_is_token at h; split at h <;> first | rfl | exact h.elim
  · intro ds S Q ED h
    unfold sp_is_token at h
    split at h
    · rename_i d n
      obtain ⟨⟨h1, h0⟩, h2⟩ := h
      have fin : ∀ b, isTokD d n = b → Dr Q (.bl b) S := fun b e => ⟨S, Le.refl _, e ▸ h2⟩
      cases d with
      | tup xs =>
        obtain ⟨hl, h0⟩ := h0 xs rfl
        simp only [↓DL.wSeq, ↓DL.wSlT, ↓DL.wNo, ↓DL.wPart, ↓DL.dSlT, ↓DL.dCat, ↓DL.dListT, ↓DL.wFor, ↓DL.iR1, ↓DL.iR2, ↓DL.iTp, ↓DL.iLs, ↓DL.iNw, ↓DL.iLn, ↓DL.wNext, ↓DL.wIf, ↓DL.wRet, ↓DL.wRetN, ↓DL.wDrop, ↓DL.wAsg, ↓DL.gNm, ↓DL.wPar, ↓DL.wVar, ↓DL.wC, ↓DL.wOp, ↓DL.wUn, ↓DL.wTst, ↓DL.wChain, ↓DL.wAnd, ↓DL.wOr, ↓DL.wNot, ↓DL.wAndV, ↓DL.wOrV, ↓DL.wNotV, ↓DL.wIfE, ↓DL.wNil, ↓DL.wCons, ↓DL.wTup, ↓DL.wLst, ↓DL.wNew, ↓DL.wDer, ↓DL.wVL, ↓DL.wVLL, ↓DL.wALL, ↓DL.wCall, ↓DL.wIsa, ↓DL.wRaise, ↓DL.isB, ↓DL.dI0, ↓DL.dI, ↓DL.dU, ↓DL.dLen, ↓DL.dIx, ↓DL.gSubD, ↓DL.setD, ↓DL.wBM, ↓DL.isL, ↓DL.onL, ↓DL.dPopAt, ↓DL.dAppend, ↓DL.wIxV, ↓DL.wEqVL, ↓DL.wEqL, ↓DL.dEqS, ↓DL.dNeS, ↓DL.startD, List.map_cons, List.map_nil, List.length_cons, List.length_nil, List.cons_append, List.nil_append, List.replicate_succ, List.replicate_zero, List.getElem?_cons_zero, List.getElem?_cons_succ, List.set_cons_zero, List.set_cons_succ, Nat.reduceAdd, Nat.reduceSub, Nat.sub_self, ↓DL.kindD, ↓DL.dIsN, ↓DL.dNotN, ↓DL.isaB, String.reduceBEq, Bool.or_false, Bool.false_or, Bool.true_or, Bool.or_true, Bool.and_true, Bool.and_false, Bool.true_and, Bool.false_and, decide_true, decide_false, ↓DL.isNon, if_true, if_false, Bool.not_true, Bool.not_false, Bool.false_eq_true, reduceIte, true_and, and_true, ↓DL.dAddX, ↓DL.dMulX, ↓DL.dIxX, ↓DL.wSlX, ↓DL.dSlX, ↓DL.wSlL2, ↓DL.withL_rl, ↓DL.lsOf, ↓DL.wDerL, ↓DL.wFz, ↓DL.wFzR, ↓DL.frzD, ↓DL.wSide, ↓DL.wCatX, ↓DL.dEqA, ↓DL.scalEq, ↓DL.eqB, ↓DL.iLq, ↓DL.iSg, ↓DL.iEn, ↓DL.wM1, ↓DL.isStr, ↓DL.dJoin, ↓DL.dStrip, ↓DL.wSplit, ↓DL.dIntX, ↓DL.dInF, ↓DL.dInS, ↓DL.seqOf, ↓DL.wPar3, ↓DL.wFld, ↓DL.fldD, ↓DL.wSetF, ↓DL.setFD, ↓DL.wAugF, ↓DL.wMeth, ↓DL.recvD, ↓DL.wMake, ↓DL.fillP, ↓DL.wAsg2, ↓DL.gFldD, ↓DL.gStD, ↓DL.starV, ↓DL.gCs, ↓DL.gNl, ↓DL.gTp, Nat.add_zero, List.append_nil, List.zipWith_nil_left, List.zipWith_cons_cons, List.getD_cons_zero, ↓DL.wYes, reduceCtorEq, ↓DL.dEqX, ↓DL.dInD, DL.dataS_rl, DL.dataS_tup, DL.dataS_int, DL.dataS_str, DL.dataS_non, DL.dataD_nil, DL.dataD_ti, DL.dataD_li, ↓DL.isL2, ↓DL.dCountX, ↓DL.dIndexX, Option.isSome_some, ↓DL.dStrX, ↓wLc]
        by_cases h3 : (xs.length : Int) = n
        · simp only [h3, decide_true, Bool.not_true, Bool.false_eq_true, reduceIte]
          refine lcW_map (fun x => .bl (!isNumD x 0 999)) True.intro (by simpa using hl) (fun d hd Kt Z k => ?_) ?_
          · simp only [↓DL.wSeq, ↓DL.wSlT, ↓DL.wNo, ↓DL.wPart, ↓DL.dSlT, ↓DL.dCat, ↓DL.dListT, ↓DL.wFor, ↓DL.iR1, ↓DL.iR2, ↓DL.iTp, ↓DL.iLs, ↓DL.iNw, ↓DL.iLn, ↓DL.wNext, ↓DL.wIf, ↓DL.wRet, ↓DL.wRetN, ↓DL.wDrop, ↓DL.wAsg, ↓DL.gNm, ↓DL.wPar, ↓DL.wVar, ↓DL.wC, ↓DL.wOp, ↓DL.wUn, ↓DL.wTst, ↓DL.wChain, ↓DL.wAnd, ↓DL.wOr, ↓DL.wNot, ↓DL.wAndV, ↓DL.wOrV, ↓DL.wNotV, ↓DL.wIfE, ↓DL.wNil, ↓DL.wCons, ↓DL.wTup, ↓DL.wLst, ↓DL.wNew, ↓DL.wDer, ↓DL.wVL, ↓DL.wVLL, ↓DL.wALL, ↓DL.wCall, ↓DL.wIsa, ↓DL.wRaise, ↓DL.isB, ↓DL.dI0, ↓DL.dI, ↓DL.dU, ↓DL.dLen, ↓DL.dIx, ↓DL.gSubD, ↓DL.setD, ↓DL.wBM, ↓DL.isL, ↓DL.onL, ↓DL.dPopAt, ↓DL.dAppend, ↓DL.wIxV, ↓DL.wEqVL, ↓DL.wEqL, ↓DL.dEqS, ↓DL.dNeS, ↓DL.startD, List.map_cons, List.map_nil, List.length_cons, List.length_nil, List.cons_append, List.nil_append, List.replicate_succ, List.replicate_zero, List.getElem?_cons_zero, List.getElem?_cons_succ, List.set_cons_zero, List.set_cons_succ, Nat.reduceAdd, Nat.reduceSub, Nat.sub_self, ↓DL.kindD, ↓DL.dIsN, ↓DL.dNotN, ↓DL.isaB, String.reduceBEq, Bool.or_false, Bool.false_or, Bool.true_or, Bool.or_true, Bool.and_true, Bool.and_false, Bool.true_and, Bool.false_and, decide_true, decide_false, ↓DL.isNon, if_true, if_false, Bool.not_true, Bool.not_false, Bool.false_eq_true, reduceIte, true_and, and_true, ↓DL.dAddX, ↓DL.dMulX, ↓DL.dIxX, ↓DL.wSlX, ↓DL.dSlX, ↓DL.wSlL2, ↓DL.withL_rl, ↓DL.lsOf, ↓DL.wDerL, ↓DL.wFz, ↓DL.wFzR, ↓DL.frzD, ↓DL.wSide, ↓DL.wCatX, ↓DL.dEqA, ↓DL.scalEq, ↓DL.eqB, ↓DL.iLq, ↓DL.iSg, ↓DL.iEn, ↓DL.wM1, ↓DL.isStr, ↓DL.dJoin, ↓DL.dStrip, ↓DL.wSplit, ↓DL.dIntX, ↓DL.dInF, ↓DL.dInS, ↓DL.seqOf, ↓DL.wPar3, ↓DL.wFld, ↓DL.fldD, ↓DL.wSetF, ↓DL.setFD, ↓DL.wAugF, ↓DL.wMeth, ↓DL.recvD, ↓DL.wMake, ↓DL.fillP, ↓DL.wAsg2, ↓DL.gFldD, ↓DL.gStD, ↓DL.starV, ↓DL.gCs, ↓DL.gNl, ↓DL.gTp, Nat.add_zero, List.append_nil, List.zipWith_nil_left, List.zipWith_cons_cons, List.getD_cons_zero, ↓DL.wYes, reduceCtorEq, ↓DL.dEqX, ↓DL.dInD, DL.dataS_rl, DL.dataS_tup, DL.dataS_int, DL.dataS_str, DL.dataS_non, DL.dataD_nil, DL.dataD_ti, DL.dataD_li, ↓DL.isL2, ↓DL.dCountX, ↓DL.dIndexX, Option.isSome_some, ↓DL.dStrX, wipeD, sp_is_number]
            exact ⟨h0 d hd, k⟩
          · refine dAny_map ?_
            exact fin _ (by simp [isTokD, h3, List.all_eq_not_any_not])
        · simp only [h3, decide_false, Bool.not_false, reduceIte]
          exact fin _ (by simp [isTokD, h3])
      | ref a =>
        unfold kOk kindD at h1
        dsimp only at h1
        simp only [↓DL.wSeq, ↓DL.wSlT, ↓DL.wNo, ↓DL.wPart, ↓DL.dSlT, ↓DL.dCat, ↓DL.dListT, ↓DL.wFor, ↓DL.iR1, ↓DL.iR2, ↓DL.iTp, ↓DL.iLs, ↓DL.iNw, ↓DL.iLn, ↓DL.wNext, ↓DL.wIf, ↓DL.wRet, ↓DL.wRetN, ↓DL.wDrop, ↓DL.wAsg, ↓DL.gNm, ↓DL.wPar, ↓DL.wVar, ↓DL.wC, ↓DL.wOp, ↓DL.wUn, ↓DL.wTst, ↓DL.wChain, ↓DL.wAnd, ↓DL.wOr, ↓DL.wNot, ↓DL.wAndV, ↓DL.wOrV, ↓DL.wNotV, ↓DL.wIfE, ↓DL.wNil, ↓DL.wCons, ↓DL.wTup, ↓DL.wLst, ↓DL.wNew, ↓DL.wDer, ↓DL.wVL, ↓DL.wVLL, ↓DL.wALL, ↓DL.wCall, ↓DL.wIsa, ↓DL.wRaise, ↓DL.isB, ↓DL.dI0, ↓DL.dI, ↓DL.dU, ↓DL.dLen, ↓DL.dIx, ↓DL.gSubD, ↓DL.setD, ↓DL.wBM, ↓DL.isL, ↓DL.onL, ↓DL.dPopAt, ↓DL.dAppend, ↓DL.wIxV, ↓DL.wEqVL, ↓DL.wEqL, ↓DL.dEqS, ↓DL.dNeS, ↓DL.startD, List.map_cons, List.map_nil, List.length_cons, List.length_nil, List.cons_append, List.nil_append, List.replicate_succ, List.replicate_zero, List.getElem?_cons_zero, List.getElem?_cons_succ, List.set_cons_zero, List.set_cons_succ, Nat.reduceAdd, Nat.reduceSub, Nat.sub_self, ↓DL.kindD, ↓DL.dIsN, ↓DL.dNotN, ↓DL.isaB, String.reduceBEq, Bool.or_false, Bool.false_or, Bool.true_or, Bool.or_true, Bool.and_true, Bool.and_false, Bool.true_and, Bool.false_and, decide_true, decide_false, ↓DL.isNon, if_true, if_false, Bool.not_true, Bool.not_false, Bool.false_eq_true, reduceIte, true_and, and_true, ↓DL.dAddX, ↓DL.dMulX, ↓DL.dIxX, ↓DL.wSlX, ↓DL.dSlX, ↓DL.wSlL2, ↓DL.withL_rl, ↓DL.lsOf, ↓DL.wDerL, ↓DL.wFz, ↓DL.wFzR, ↓DL.frzD, ↓DL.wSide, ↓DL.wCatX, ↓DL.dEqA, ↓DL.scalEq, ↓DL.eqB, ↓DL.iLq, ↓DL.iSg, ↓DL.iEn, ↓DL.wM1, ↓DL.isStr, ↓DL.dJoin, ↓DL.dStrip, ↓DL.wSplit, ↓DL.dIntX, ↓DL.dInF, ↓DL.dInS, ↓DL.seqOf, ↓DL.wPar3, ↓DL.wFld, ↓DL.fldD, ↓DL.wSetF, ↓DL.setFD, ↓DL.wAugF, ↓DL.wMeth, ↓DL.recvD, ↓DL.wMake, ↓DL.fillP, ↓DL.wAsg2, ↓DL.gFldD, ↓DL.gStD, ↓DL.starV, ↓DL.gCs, ↓DL.gNl, ↓DL.gTp, Nat.add_zero, List.append_nil, List.zipWith_nil_left, List.zipWith_cons_cons, List.getD_cons_zero, ↓DL.wYes, reduceCtorEq, ↓DL.dEqX, ↓DL.dInD, DL.dataS_rl, DL.dataS_tup, DL.dataS_int, DL.dataS_str, DL.dataS_non, DL.dataD_nil, DL.dataD_ti, DL.dataD_li, ↓DL.isL2, ↓DL.dCountX, ↓DL.dIndexX, Option.isSome_some, ↓DL.dStrX]
        split at h1 <;> first | (rename_i e; simp only [e, isaB, String.reduceBEq, Bool.or_false, Bool.false_eq_true, reduceIte, Bool.false_and, Bool.and_false, Bool.not_false]; exact fin _ rfl) | exact absurd rfl h1
      | fn L c => exact absurd rfl h1
      | fnS L c v => exact absurd rfl h1
      | kl xs => exact absurd rfl h1
      | _ =>
        simp only [↓DL.wSeq, ↓DL.wSlT, ↓DL.wNo, ↓DL.wPart, ↓DL.dSlT, ↓DL.dCat, ↓DL.dListT, ↓DL.wFor, ↓DL.iR1, ↓DL.iR2, ↓DL.iTp, ↓DL.iLs, ↓DL.iNw, ↓DL.iLn, ↓DL.wNext, ↓DL.wIf, ↓DL.wRet, ↓DL.wRetN, ↓DL.wDrop, ↓DL.wAsg, ↓DL.gNm, ↓DL.wPar, ↓DL.wVar, ↓DL.wC, ↓DL.wOp, ↓DL.wUn, ↓DL.wTst, ↓DL.wChain, ↓DL.wAnd, ↓DL.wOr, ↓DL.wNot, ↓DL.wAndV, ↓DL.wOrV, ↓DL.wNotV, ↓DL.wIfE, ↓DL.wNil, ↓DL.wCons, ↓DL.wTup, ↓DL.wLst, ↓DL.wNew, ↓DL.wDer, ↓DL.wVL, ↓DL.wVLL, ↓DL.wALL, ↓DL.wCall, ↓DL.wIsa, ↓DL.wRaise, ↓DL.isB, ↓DL.dI0, ↓DL.dI, ↓DL.dU, ↓DL.dLen, ↓DL.dIx, ↓DL.gSubD, ↓DL.setD, ↓DL.wBM, ↓DL.isL, ↓DL.onL, ↓DL.dPopAt, ↓DL.dAppend, ↓DL.wIxV, ↓DL.wEqVL, ↓DL.wEqL, ↓DL.dEqS, ↓DL.dNeS, ↓DL.startD, List.map_cons, List.map_nil, List.length_cons, List.length_nil, List.cons_append, List.nil_append, List.replicate_succ, List.replicate_zero, List.getElem?_cons_zero, List.getElem?_cons_succ, List.set_cons_zero, List.set_cons_succ, Nat.reduceAdd, Nat.reduceSub, Nat.sub_self, ↓DL.kindD, ↓DL.dIsN, ↓DL.dNotN, ↓DL.isaB, String.reduceBEq, Bool.or_false, Bool.false_or, Bool.true_or, Bool.or_true, Bool.and_true, Bool.and_false, Bool.true_and, Bool.false_and, decide_true, decide_false, ↓DL.isNon, if_true, if_false, Bool.not_true, Bool.not_false, Bool.false_eq_true, reduceIte, true_and, and_true, ↓DL.dAddX, ↓DL.dMulX, ↓DL.dIxX, ↓DL.wSlX, ↓DL.dSlX, ↓DL.wSlL2, ↓DL.withL_rl, ↓DL.lsOf, ↓DL.wDerL, ↓DL.wFz, ↓DL.wFzR, ↓DL.frzD, ↓DL.wSide, ↓DL.wCatX, ↓DL.dEqA, ↓DL.scalEq, ↓DL.eqB, ↓DL.iLq, ↓DL.iSg, ↓DL.iEn, ↓DL.wM1, ↓DL.isStr, ↓DL.dJoin, ↓DL.dStrip, ↓DL.wSplit, ↓DL.dIntX, ↓DL.dInF, ↓DL.dInS, ↓DL.seqOf, ↓DL.wPar3, ↓DL.wFld, ↓DL.fldD, ↓DL.wSetF, ↓DL.setFD, ↓DL.wAugF, ↓DL.wMeth, ↓DL.recvD, ↓DL.wMake, ↓DL.fillP, ↓DL.wAsg2, ↓DL.gFldD, ↓DL.gStD, ↓DL.starV, ↓DL.gCs, ↓DL.gNl, ↓DL.gTp, Nat.add_zero, List.append_nil, List.zipWith_nil_left, List.zipWith_cons_cons, List.getD_cons_zero, ↓DL.wYes, reduceCtorEq, ↓DL.dEqX, ↓DL.dInD, DL.dataS_rl, DL.dataS_tup, DL.dataS_int, DL.dataS_str, DL.dataS_non, DL.dataD_nil, DL.dataD_ti, DL.dataD_li, ↓DL.isL2, ↓DL.dCountX, ↓DL.dIndexX, Option.isSome_some, ↓DL.dStrX]
        exact fin _ rfl
    · exact h.elim
theorem isTokD_e {d : D} {n : Int} (h : isTokD d n = true) : ∃ as : List Int, d = .tup (as.map D.int) ∧ (as.length : Int) = n ∧ ∀ a ∈ as, 0 ≤ a ∧ a ≤ 999 := by
  unfold isTokD at h
  split at h
  · rename_i xs
    rw [Bool.and_eq_true, decide_eq_true_eq] at h
    obtain ⟨h1, h2⟩ := h
    have all : ∀ l : List D, (l.all fun x => isNumD x 0 999) = true → ∃ as : List Int, l = as.map D.int ∧ ∀ a ∈ as, 0 ≤ a ∧ a ≤ 999 := fun l => by
      induction l with
      | nil => exact fun _ => ⟨[], rfl, fun a ha => by cases ha⟩
      | cons x l ih =>
        intro hx
        rw [List.all_cons, Bool.and_eq_true] at hx
        obtain ⟨as, e, ha⟩ := ih hx.2
        have hx1 := hx.1
        unfold isNumD at hx1
        split at hx1
        · rename_i i
          rw [Bool.and_eq_true, decide_eq_true_eq, decide_eq_true_eq] at hx1
          refine ⟨i :: as, by rw [e]; rfl, fun a h => ?_⟩
          rcases List.mem_cons.mp h with z | h
          · rw [z]; exact hx1
          · exact ha a h
        · cases hx1
    obtain ⟨as, e, ha⟩ := all xs h2
    subst e
    exact ⟨as, rfl, by simpa using h1, ha⟩
  · cases h
theorem isTokD_of {as : List Int} (h : ∀ a ∈ as, 0 ≤ a ∧ a ≤ 999) : isTokD (.tup (as.map D.int)) as.length = true := by
  simp only [isTokD, List.length_map, decide_true, Bool.true_and, List.all_map, List.all_eq_true, Function.comp]
  intro a ha
  obtain ⟨h1, h2⟩ := h a ha
  simp [isNumD, h1, h2]
theorem isTokD_bad {xs : List D} {x : D} {n : Int} (h : x ∈ xs) (hx : isNumD x 0 999 = false) : isTokD (.tup xs) n = false := by
  simp only [isTokD, Bool.and_eq_false_iff, List.all_eq_false]
  right
  exact ⟨x, h, by simp [hx]⟩
theorem isTokD_len {xs : List D} {n : Int} (h : (xs.length : Int) ≠ n) : isTokD (.tup xs) n = false := by
  simp [isTokD, h]
theorem kOks_tup {S : Store} {xs : List D} (hl : xs.length ≤ sizeLine) (h : ∀ x ∈ xs, kOk S x) : kOks S (.tup xs) := ⟨by simp [kOk, kindD], fun ys e => by cases e; exact ⟨hl, h⟩⟩
theorem kOk_ints {S : Store} {as : List Int} : ∀ x ∈ as.map D.int, kOk S x := fun x hx => by
  obtain ⟨a, _, rfl⟩ := List.mem_map.mp hx
  simp [kOk, kindD]
theorem kOks_ints {S : Store} {as : List Int} (h : as.length ≤ 1000) : kOks S (.tup (as.map D.int)) := kOks_tup (by simp; rw [sizeLine_eq]; omega) kOk_ints
def sp_need_token : SpD := fun ds S Q E => match ds with | [d, .int n] => kOks S d ∧ (if isTokD d n = true then Q .non S else E ⟨"BadToken", none⟩ S) | _ => False
theorem sc_need_token : FnScope ["token", "many"] ["token", "many"] (defScope s_need_token) := ⟨rfl, rfl, rfl, by decide +kernel, rfl, by decide +kernel, by decide +kernel⟩
theorem ok_need_token (G : Def K mg "need_token" s_need_token ["token", "many"]) (T : Txt K mg) (c_is_token : Cal P w K mg base "is_token" 2 ["token", "many"] sp_is_token) : Cal P w K mg base "need_token" 3 ["token", "many"] sp_need_token := by
  refine G.calD sc_need_token (fun ds S Q E h => ?_) fun f cdv A outer s H E hr => ⟨_, (dpss_one (dps_if (dpt_not (dpt_val (dpe_cal c_is_token hr (by first | decide | omega) rfl (takes_of rfl rfl rfl rfl) (dpa_cons (dv 0) (dpa_cons (dv 1) dpa_nil))))) (dpss_one (dps_rz T.e_BadToken rfl (takes_of rfl rfl rfl rfl) rfl)) dpss_nil)), ?_⟩
  · unfold sp_need_token at h; split at h <;> first | rfl | exact h.elim
  · intro ds S Q ED h
    unfold sp_need_token at h
    split at h
    · rename_i d n
      obtain ⟨h1, h2⟩ := h
      simp only [↓DL.wSeq, ↓DL.wSlT, ↓DL.wNo, ↓DL.wPart, ↓DL.dSlT, ↓DL.dCat, ↓DL.dListT, ↓DL.wFor, ↓DL.iR1, ↓DL.iR2, ↓DL.iTp, ↓DL.iLs, ↓DL.iNw, ↓DL.iLn, ↓DL.wNext, ↓DL.wIf, ↓DL.wRet, ↓DL.wRetN, ↓DL.wDrop, ↓DL.wAsg, ↓DL.gNm, ↓DL.wPar, ↓DL.wVar, ↓DL.wC, ↓DL.wOp, ↓DL.wUn, ↓DL.wTst, ↓DL.wChain, ↓DL.wAnd, ↓DL.wOr, ↓DL.wNot, ↓DL.wAndV, ↓DL.wOrV, ↓DL.wNotV, ↓DL.wIfE, ↓DL.wNil, ↓DL.wCons, ↓DL.wTup, ↓DL.wLst, ↓DL.wNew, ↓DL.wDer, ↓DL.wVL, ↓DL.wVLL, ↓DL.wALL, ↓DL.wCall, ↓DL.wIsa, ↓DL.wRaise, ↓DL.isB, ↓DL.dI0, ↓DL.dI, ↓DL.dU, ↓DL.dLen, ↓DL.dIx, ↓DL.gSubD, ↓DL.setD, ↓DL.wBM, ↓DL.isL, ↓DL.onL, ↓DL.dPopAt, ↓DL.dAppend, ↓DL.wIxV, ↓DL.wEqVL, ↓DL.wEqL, ↓DL.dEqS, ↓DL.dNeS, ↓DL.startD, List.map_cons, List.map_nil, List.length_cons, List.length_nil, List.cons_append, List.nil_append, List.replicate_succ, List.replicate_zero, List.getElem?_cons_zero, List.getElem?_cons_succ, List.set_cons_zero, List.set_cons_succ, Nat.reduceAdd, Nat.reduceSub, Nat.sub_self, ↓DL.kindD, ↓DL.dIsN, ↓DL.dNotN, ↓DL.isaB, String.reduceBEq, Bool.or_false, Bool.false_or, Bool.true_or, Bool.or_true, Bool.and_true, Bool.and_false, Bool.true_and, Bool.false_and, decide_true, decide_false, ↓DL.isNon, if_true, if_false, Bool.not_true, Bool.not_false, Bool.false_eq_true, reduceIte, true_and, and_true, ↓DL.dAddX, ↓DL.dMulX, ↓DL.dIxX, ↓DL.wSlX, ↓DL.dSlX, ↓DL.wSlL2, ↓DL.withL_rl, ↓DL.lsOf, ↓DL.wDerL, ↓DL.wFz, ↓DL.wFzR, ↓DL.frzD, ↓DL.wSide, ↓DL.wCatX, ↓DL.dEqA, ↓DL.scalEq, ↓DL.eqB, ↓DL.iLq, ↓DL.iSg, ↓DL.iEn, ↓DL.wM1, ↓DL.isStr, ↓DL.dJoin, ↓DL.dStrip, ↓DL.wSplit, ↓DL.dIntX, ↓DL.dInF, ↓DL.dInS, ↓DL.seqOf, ↓DL.wPar3, ↓DL.wFld, ↓DL.fldD, ↓DL.wSetF, ↓DL.setFD, ↓DL.wAugF, ↓DL.wMeth, ↓DL.recvD, ↓DL.wMake, ↓DL.fillP, ↓DL.wAsg2, ↓DL.gFldD, ↓DL.gStD, ↓DL.starV, ↓DL.gCs, ↓DL.gNl, ↓DL.gTp, Nat.add_zero, List.append_nil, List.zipWith_nil_left, List.zipWith_cons_cons, List.getD_cons_zero, ↓DL.wYes, reduceCtorEq, ↓DL.dEqX, ↓DL.dInD, DL.dataS_rl, DL.dataS_tup, DL.dataS_int, DL.dataS_str, DL.dataS_non, DL.dataD_nil, DL.dataD_ti, DL.dataD_li, ↓DL.isL2, ↓DL.dCountX, ↓DL.dIndexX, Option.isSome_some, ↓DL.dStrX, sp_is_token]
      refine ⟨h1, ?_⟩
      cases h3 : isTokD d n with
      | true =>
        rw [h3] at h2
        exact ⟨S, Le.refl _, h2⟩
      | false =>
        rw [h3] at h2
        exact ⟨S, Le.refl _, h2⟩
    · exact h.elim
--HINT sized | token | tup
def sizedD (d : D) : Int := match d with | .tup xs => (if (5 : Int) < (if (2 : Int) > (xs.length : Int) then (2 : Int) else (xs.length : Int)) then (5 : Int) else (if (2 : Int) > (xs.length : Int) then (2 : Int) else (xs.length : Int))) | _ => 2
def sp_sized : SpD := fun ds S Q _ => match ds with | [d] => kOks S d ∧ Q (.int (sizedD d)) S | _ => False
theorem sc_sized : FnScope ["token", "many"] ["token"] (defScope s_sized) := ⟨rfl, rfl, rfl, by decide +kernel, rfl, by decide +kernel, by decide +kernel⟩
theorem ok_sized (G : Def K mg "sized" s_sized ["token"]) (T : Txt K mg) : Cal P w K mg base "sized" 1 ["token"] sp_sized := by
  refine G.calD sc_sized (fun ds S Q E h => ?_) fun f cdv A outer s H E hr => ⟨_, (dpss_cons (dps_set (i := 1) sc_sized.nd rfl (by first | exact Or.inl rfl | exact Or.inr rfl) (dpe_ifE (dpt_val (dpe_isa (T := "tuple") (by decide) rfl T.b_isinstance bb_isinstance rfl T.b_tuple bb_tuple (dv 0))) (dpe_ba call_len lc_len rfl T.b_len bb_len (dpa_cons (dv 0) dpa_nil)) (dpe_cst T.c_LEAST_SITES rfl)))
    (dpss_one (dps_ret (dpe_ba (call_min2 rfl) lc_min2 rfl T.b_min bb_min (dpa_cons (dpe_ba (call_max2 rfl) lc_max2 rfl T.b_max bb_max (dpa_cons (dv 1) (dpa_cons (dpe_cst T.c_LEAST_SITES rfl) dpa_nil))) (dpa_cons (dpe_cst T.c_MOST_SITES rfl) dpa_nil)))))), ?_⟩
  · unfold sp_sized at h; split at h <;> first | rfl | exact h.elim
  · intro ds S Q ED h
    unfold sp_sized at h
    split at h
    · rename_i d
      obtain ⟨⟨h1, h0⟩, h2⟩ := h
      have fin : ∀ b, sizedD d = b → Dr Q (.int b) S := fun b e => ⟨S, Le.refl _, e ▸ h2⟩
      cases d with
      | tup xs =>
        simp only [↓DL.wSeq, ↓DL.wSlT, ↓DL.wNo, ↓DL.wPart, ↓DL.dSlT, ↓DL.dCat, ↓DL.dListT, ↓DL.wFor, ↓DL.iR1, ↓DL.iR2, ↓DL.iTp, ↓DL.iLs, ↓DL.iNw, ↓DL.iLn, ↓DL.wNext, ↓DL.wIf, ↓DL.wRet, ↓DL.wRetN, ↓DL.wDrop, ↓DL.wAsg, ↓DL.gNm, ↓DL.wPar, ↓DL.wVar, ↓DL.wC, ↓DL.wOp, ↓DL.wUn, ↓DL.wTst, ↓DL.wChain, ↓DL.wAnd, ↓DL.wOr, ↓DL.wNot, ↓DL.wAndV, ↓DL.wOrV, ↓DL.wNotV, ↓DL.wIfE, ↓DL.wNil, ↓DL.wCons, ↓DL.wTup, ↓DL.wLst, ↓DL.wNew, ↓DL.wDer, ↓DL.wVL, ↓DL.wVLL, ↓DL.wALL, ↓DL.wCall, ↓DL.wIsa, ↓DL.wRaise, ↓DL.isB, ↓DL.dI0, ↓DL.dI, ↓DL.dU, ↓DL.dLen, ↓DL.dIx, ↓DL.gSubD, ↓DL.setD, ↓DL.wBM, ↓DL.isL, ↓DL.onL, ↓DL.dPopAt, ↓DL.dAppend, ↓DL.wIxV, ↓DL.wEqVL, ↓DL.wEqL, ↓DL.dEqS, ↓DL.dNeS, ↓DL.startD, List.map_cons, List.map_nil, List.length_cons, List.length_nil, List.cons_append, List.nil_append, List.replicate_succ, List.replicate_zero, List.getElem?_cons_zero, List.getElem?_cons_succ, List.set_cons_zero, List.set_cons_succ, Nat.reduceAdd, Nat.reduceSub, Nat.sub_self, ↓DL.kindD, ↓DL.dIsN, ↓DL.dNotN, ↓DL.isaB, String.reduceBEq, Bool.or_false, Bool.false_or, Bool.true_or, Bool.or_true, Bool.and_true, Bool.and_false, Bool.true_and, Bool.false_and, decide_true, decide_false, ↓DL.isNon, if_true, if_false, Bool.not_true, Bool.not_false, Bool.false_eq_true, reduceIte, true_and, and_true, ↓DL.dAddX, ↓DL.dMulX, ↓DL.dIxX, ↓DL.wSlX, ↓DL.dSlX, ↓DL.wSlL2, ↓DL.withL_rl, ↓DL.lsOf, ↓DL.wDerL, ↓DL.wFz, ↓DL.wFzR, ↓DL.frzD, ↓DL.wSide, ↓DL.wCatX, ↓DL.dEqA, ↓DL.scalEq, ↓DL.eqB, ↓DL.iLq, ↓DL.iSg, ↓DL.iEn, ↓DL.wM1, ↓DL.isStr, ↓DL.dJoin, ↓DL.dStrip, ↓DL.wSplit, ↓DL.dIntX, ↓DL.dInF, ↓DL.dInS, ↓DL.seqOf, ↓DL.wPar3, ↓DL.wFld, ↓DL.fldD, ↓DL.wSetF, ↓DL.setFD, ↓DL.wAugF, ↓DL.wMeth, ↓DL.recvD, ↓DL.wMake, ↓DL.fillP, ↓DL.wAsg2, ↓DL.gFldD, ↓DL.gStD, ↓DL.starV, ↓DL.gCs, ↓DL.gNl, ↓DL.gTp, Nat.add_zero, List.append_nil, List.zipWith_nil_left, List.zipWith_cons_cons, List.getD_cons_zero, ↓DL.wYes, reduceCtorEq, ↓DL.dEqX, ↓DL.dInD, DL.dataS_rl, DL.dataS_tup, DL.dataS_int, DL.dataS_str, DL.dataS_non, DL.dataD_nil, DL.dataD_ti, DL.dataD_li, ↓DL.isL2, ↓DL.dCountX, ↓DL.dIndexX, Option.isSome_some, ↓DL.dStrX, dMax2, dMin2]
        exact fin _ (by first | rfl | (simp only [sizedD]; rfl) | (unfold sizedD; exact rfl))
      | ref a =>
        unfold kOk kindD at h1
        dsimp only at h1
        simp only [↓DL.wSeq, ↓DL.wSlT, ↓DL.wNo, ↓DL.wPart, ↓DL.dSlT, ↓DL.dCat, ↓DL.dListT, ↓DL.wFor, ↓DL.iR1, ↓DL.iR2, ↓DL.iTp, ↓DL.iLs, ↓DL.iNw, ↓DL.iLn, ↓DL.wNext, ↓DL.wIf, ↓DL.wRet, ↓DL.wRetN, ↓DL.wDrop, ↓DL.wAsg, ↓DL.gNm, ↓DL.wPar, ↓DL.wVar, ↓DL.wC, ↓DL.wOp, ↓DL.wUn, ↓DL.wTst, ↓DL.wChain, ↓DL.wAnd, ↓DL.wOr, ↓DL.wNot, ↓DL.wAndV, ↓DL.wOrV, ↓DL.wNotV, ↓DL.wIfE, ↓DL.wNil, ↓DL.wCons, ↓DL.wTup, ↓DL.wLst, ↓DL.wNew, ↓DL.wDer, ↓DL.wVL, ↓DL.wVLL, ↓DL.wALL, ↓DL.wCall, ↓DL.wIsa, ↓DL.wRaise, ↓DL.isB, ↓DL.dI0, ↓DL.dI, ↓DL.dU, ↓DL.dLen, ↓DL.dIx, ↓DL.gSubD, ↓DL.setD, ↓DL.wBM, ↓DL.isL, ↓DL.onL, ↓DL.dPopAt, ↓DL.dAppend, ↓DL.wIxV, ↓DL.wEqVL, ↓DL.wEqL, ↓DL.dEqS, ↓DL.dNeS, ↓DL.startD, List.map_cons, List.map_nil, List.length_cons, List.length_nil, List.cons_append, List.nil_append, List.replicate_succ, List.replicate_zero, List.getElem?_cons_zero, List.getElem?_cons_succ, List.set_cons_zero, List.set_cons_succ, Nat.reduceAdd, Nat.reduceSub, Nat.sub_self, ↓DL.kindD, ↓DL.dIsN, ↓DL.dNotN, ↓DL.isaB, String.reduceBEq, Bool.or_false, Bool.false_or, Bool.true_or, Bool.or_true, Bool.and_true, Bool.and_false, Bool.true_and, Bool.false_and, decide_true, decide_false, ↓DL.isNon, if_true, if_false, Bool.not_true, Bool.not_false, Bool.false_eq_true, reduceIte, true_and, and_true, ↓DL.dAddX, ↓DL.dMulX, ↓DL.dIxX, ↓DL.wSlX, ↓DL.dSlX, ↓DL.wSlL2, ↓DL.withL_rl, ↓DL.lsOf, ↓DL.wDerL, ↓DL.wFz, ↓DL.wFzR, ↓DL.frzD, ↓DL.wSide, ↓DL.wCatX, ↓DL.dEqA, ↓DL.scalEq, ↓DL.eqB, ↓DL.iLq, ↓DL.iSg, ↓DL.iEn, ↓DL.wM1, ↓DL.isStr, ↓DL.dJoin, ↓DL.dStrip, ↓DL.wSplit, ↓DL.dIntX, ↓DL.dInF, ↓DL.dInS, ↓DL.seqOf, ↓DL.wPar3, ↓DL.wFld, ↓DL.fldD, ↓DL.wSetF, ↓DL.setFD, ↓DL.wAugF, ↓DL.wMeth, ↓DL.recvD, ↓DL.wMake, ↓DL.fillP, ↓DL.wAsg2, ↓DL.gFldD, ↓DL.gStD, ↓DL.starV, ↓DL.gCs, ↓DL.gNl, ↓DL.gTp, Nat.add_zero, List.append_nil, List.zipWith_nil_left, List.zipWith_cons_cons, List.getD_cons_zero, ↓DL.wYes, reduceCtorEq, ↓DL.dEqX, ↓DL.dInD, DL.dataS_rl, DL.dataS_tup, DL.dataS_int, DL.dataS_str, DL.dataS_non, DL.dataD_nil, DL.dataD_ti, DL.dataD_li, ↓DL.isL2, ↓DL.dCountX, ↓DL.dIndexX, Option.isSome_some, ↓DL.dStrX, dMax2, dMin2]
        split at h1 <;> first | (rename_i e; simp only [e, isaB, String.reduceBEq, Bool.or_false, Bool.false_eq_true, reduceIte, Bool.false_and, Bool.and_false]; exact fin _ rfl) | exact absurd rfl h1
      | fn L c => exact absurd rfl h1
      | fnS L c v => exact absurd rfl h1
      | kl xs => exact absurd rfl h1
      | _ =>
        simp only [↓DL.wSeq, ↓DL.wSlT, ↓DL.wNo, ↓DL.wPart, ↓DL.dSlT, ↓DL.dCat, ↓DL.dListT, ↓DL.wFor, ↓DL.iR1, ↓DL.iR2, ↓DL.iTp, ↓DL.iLs, ↓DL.iNw, ↓DL.iLn, ↓DL.wNext, ↓DL.wIf, ↓DL.wRet, ↓DL.wRetN, ↓DL.wDrop, ↓DL.wAsg, ↓DL.gNm, ↓DL.wPar, ↓DL.wVar, ↓DL.wC, ↓DL.wOp, ↓DL.wUn, ↓DL.wTst, ↓DL.wChain, ↓DL.wAnd, ↓DL.wOr, ↓DL.wNot, ↓DL.wAndV, ↓DL.wOrV, ↓DL.wNotV, ↓DL.wIfE, ↓DL.wNil, ↓DL.wCons, ↓DL.wTup, ↓DL.wLst, ↓DL.wNew, ↓DL.wDer, ↓DL.wVL, ↓DL.wVLL, ↓DL.wALL, ↓DL.wCall, ↓DL.wIsa, ↓DL.wRaise, ↓DL.isB, ↓DL.dI0, ↓DL.dI, ↓DL.dU, ↓DL.dLen, ↓DL.dIx, ↓DL.gSubD, ↓DL.setD, ↓DL.wBM, ↓DL.isL, ↓DL.onL, ↓DL.dPopAt, ↓DL.dAppend, ↓DL.wIxV, ↓DL.wEqVL, ↓DL.wEqL, ↓DL.dEqS, ↓DL.dNeS, ↓DL.startD, List.map_cons, List.map_nil, List.length_cons, List.length_nil, List.cons_append, List.nil_append, List.replicate_succ, List.replicate_zero, List.getElem?_cons_zero, List.getElem?_cons_succ, List.set_cons_zero, List.set_cons_succ, Nat.reduceAdd, Nat.reduceSub, Nat.sub_self, ↓DL.kindD, ↓DL.dIsN, ↓DL.dNotN, ↓DL.isaB, String.reduceBEq, Bool.or_false, Bool.false_or, Bool.true_or, Bool.or_true, Bool.and_true, Bool.and_false, Bool.true_and, Bool.false_and, decide_true, decide_false, ↓DL.isNon, if_true, if_false, Bool.not_true, Bool.not_false, Bool.false_eq_true, reduceIte, true_and, and_true, ↓DL.dAddX, ↓DL.dMulX, ↓DL.dIxX, ↓DL.wSlX, ↓DL.dSlX, ↓DL.wSlL2, ↓DL.withL_rl, ↓DL.lsOf, ↓DL.wDerL, ↓DL.wFz, ↓DL.wFzR, ↓DL.frzD, ↓DL.wSide, ↓DL.wCatX, ↓DL.dEqA, ↓DL.scalEq, ↓DL.eqB, ↓DL.iLq, ↓DL.iSg, ↓DL.iEn, ↓DL.wM1, ↓DL.isStr, ↓DL.dJoin, ↓DL.dStrip, ↓DL.wSplit, ↓DL.dIntX, ↓DL.dInF, ↓DL.dInS, ↓DL.seqOf, ↓DL.wPar3, ↓DL.wFld, ↓DL.fldD, ↓DL.wSetF, ↓DL.setFD, ↓DL.wAugF, ↓DL.wMeth, ↓DL.recvD, ↓DL.wMake, ↓DL.fillP, ↓DL.wAsg2, ↓DL.gFldD, ↓DL.gStD, ↓DL.starV, ↓DL.gCs, ↓DL.gNl, ↓DL.gTp, Nat.add_zero, List.append_nil, List.zipWith_nil_left, List.zipWith_cons_cons, List.getD_cons_zero, ↓DL.wYes, reduceCtorEq, ↓DL.dEqX, ↓DL.dInD, DL.dataS_rl, DL.dataS_tup, DL.dataS_int, DL.dataS_str, DL.dataS_non, DL.dataD_nil, DL.dataD_ti, DL.dataD_li, ↓DL.isL2, ↓DL.dCountX, ↓DL.dIndexX, Option.isSome_some, ↓DL.dStrX, dMax2, dMin2]
        exact fin _ rfl
    · exact h.elim
def nS (i : Int) : Str := toString i
--HINT number_of | figures | text
--HINT number_of | sign in FIGURES | sign
def isFig (c : Nat) : Bool := decide (c ∈ ("0123456789" : Str).cps.toList)
def isFigS (y : Str) : Bool := match y with | ⟨⟨[c]⟩⟩ => isFig c | _ => false
def figs (x : Str) : Str := if cutS x none (some 1) = "-" then cutS x (some 1) none else x
def numOfF (x f : Str) : D := if 1 ≤ f.length ∧ f.length ≤ 4 ∧ f.cps.toList.all isFig = true then (if f.cps.toList[0]? = some 48 ∧ x ≠ "0" then .non else match PySem.intText? x with | some n => .int n | none => .non) else .non
def numOfD (x : Str) : D := numOfF x (figs x)
theorem fig_digit {l : List Nat} (h : l.all isFig = true) : NumText.AllDigits l := fun c hc => by
  have := List.all_eq_true.mp h c hc
  unfold isFig at this
  have h2 : c ∈ [48, 49, 50, 51, 52, 53, 54, 55, 56, 57] := of_decide_eq_true this
  simp only [List.mem_cons, List.not_mem_nil, or_false] at h2
  omega
theorem cut_tail (x : Str) (h : cutS x none (some 1) = "-") : x.cps.toList = 45 :: (cutS x (some 1) none).cps.toList := by
  have e1 := congrArg (fun s : Str => s.cps.toList) h
  have hl : x.length = x.cps.toList.length := Array.length_toList.symm
  unfold cutS at e1 ⊢
  rw [show ((1 : Int)) = ((1 : Nat) : Int) from rfl, HT.sIx_nat, HT.sIx_none] at e1 ⊢
  rw [hl] at e1 ⊢
  clear hl h
  dsimp only at e1 ⊢
  generalize x.cps.toList = l at *
  have e3 : l.take 1 = [45] := by
    have : ("-" : Str).cps.toList = [45] := rfl
    rw [this] at e1
    cases l with
    | nil => simp at e1
    | cons c l => rwa [show min 1 (c :: l).length - 0 = 1 by simp, List.drop_zero] at e1
  cases l with
  | nil => cases e3
  | cons c l =>
    have e4 : c = 45 := by simpa using e3
    subst e4
    simp
theorem figs_int {x : Str} (hx : x.length ≤ 640) (h : (figs x).cps.toList.all isFig = true) (ne : (figs x).cps.toList ≠ []) : ∃ n, PySem.intText? x = some n := by
  unfold figs at h ne
  split at h
  · rename_i q
    rw [if_pos q] at ne
    exact ⟨_, PySem.intText_neg (cut_tail x q) (fig_digit h) ne (by omega)⟩
  · rename_i q
    rw [if_neg q] at ne
    exact ⟨_, PySem.intText_digits (fig_digit h) ne (by omega)⟩
theorem figs_len {x : Str} (h : (figs x).length ≤ 4) : x.length ≤ 640 := by
  unfold figs at h
  split at h
  · rename_i q
    have e := congrArg List.length (cut_tail x q)
    rw [List.length_cons] at e
    have l1 : x.length = x.cps.toList.length := Array.length_toList.symm
    have l2 : (cutS x (some 1) none).length = (cutS x (some 1) none).cps.toList.length := Array.length_toList.symm
    omega
  · omega
def sp_number_of : SpD := fun ds S Q _ => match ds with | [.str x] => x.length ≤ 1000000 ∧ Q (numOfD x) S | _ => False
theorem sc_number_of : FnScope ["word", "figures", "sign"] ["word"] (defScope s_number_of) := ⟨rfl, rfl, rfl, by decide +kernel, rfl, by decide +kernel, by decide +kernel⟩
theorem ok_number_of (G : Def K mg "number_of" s_number_of ["word"]) (T : Txt K mg) : Cal P w K mg base "number_of" 1 ["word"] sp_number_of := by
  refine G.calD sc_number_of (fun ds S Q E h => ?_) fun f cdv A outer s H E hr => ⟨_, (dpss_cons (dps_set (i := 1) sc_number_of.nd rfl (by first | exact Or.inl rfl | exact Or.inr rfl) (dpe_ifE (dpt_cmp (op_eqA (hr.units)) lr_eqA (dpe_slX (dv 0) dpo_none (dpo_some dpe_int)) dpe_str (nomark _)) (dpe_slX (dv 0) (dpo_some dpe_int) dpo_none) (dv 0)))
    (dpss_cons (dps_if (dpw_pt (dpw_or (dpt_not (dpt_chain op_le op_le lr_cmp lr_cmp dpe_int (dpe_ba call_len lc_len rfl T.b_len bb_len (dpa_cons (dv 1) dpa_nil)) dpe_int)) (dpw_or1 (dpt_not (dpt_val (dpe_bv (cr_all rfl) lc_all rfl T.b_all bb_all (dpv_new (dpl_lc (own := [("sign", 2)]) rfl sc_number_of.nd (dpi_str (dv 1)) (blkOk_by (own := [("sign", 2)]) (by rfl)) (fun _ _ _ _ _ => (dpg_name (vs := [2]) (i := 2) sc_number_of.nd rfl (by first | exact Or.inl rfl | exact Or.inr rfl) (by decide))) (fun _ _ _ _ _ => dpts_nil) (fun _ _ _ _ _ => (dpe_cmp op_in_sign lr_inS (dv 2) (dpe_cst T.c_FIGURES rfl) rfl)))))))))) (dpss_one (dps_ret dpe_non)) dpss_nil)
    (dpss_one (dps_ret (dpe_ifE (dpw_pt (dpw_and (dpt_cmp (op_eqA (hr.units)) lr_eqA (dpe_ixX (dv 1) dpe_int (fun _ _ => rfl)) dpe_str (nomark _)) (dpw_and1 (dpt_cmp (op_neA (hr.units)) lr_neA (dv 0) dpe_str (nomark _))))) dpe_non (dpe_ta (DL.CallR.or call_int1 call_int_str) lc_intX rfl T.b_int bb_int (dpa_cons (dv 0) dpa_nil))))))), ?_⟩
  · unfold sp_number_of at h; split at h <;> first | rfl | exact h.elim
  · intro ds S Q ED h
    unfold sp_number_of at h
    split at h
    · rename_i x
      obtain ⟨lx, h2⟩ := h
      unfold numOfD at h2
      have fin : ∀ d, numOfF x (figs x) = d → Dr Q d S := fun b e => ⟨S, Le.refl _, e ▸ h2⟩
      have lx4 : (figs x).length ≤ 4 → x.length ≤ 640 := figs_len
      have ex := fun (h4 : (figs x).length ≤ 4) => figs_int (figs_len h4)
      clear h2
      simp only [↓DL.wSeq, ↓DL.wSlT, ↓DL.wNo, ↓DL.wPart, ↓DL.dSlT, ↓DL.dCat, ↓DL.dListT, ↓DL.wFor, ↓DL.iR1, ↓DL.iR2, ↓DL.iTp, ↓DL.iLs, ↓DL.iNw, ↓DL.iLn, ↓DL.wNext, ↓DL.wIf, ↓DL.wRet, ↓DL.wRetN, ↓DL.wDrop, ↓DL.wAsg, ↓DL.gNm, ↓DL.wPar, ↓DL.wVar, ↓DL.wC, ↓DL.wOp, ↓DL.wUn, ↓DL.wTst, ↓DL.wChain, ↓DL.wAnd, ↓DL.wOr, ↓DL.wNot, ↓DL.wAndV, ↓DL.wOrV, ↓DL.wNotV, ↓DL.wIfE, ↓DL.wNil, ↓DL.wCons, ↓DL.wTup, ↓DL.wLst, ↓DL.wNew, ↓DL.wDer, ↓DL.wVL, ↓DL.wVLL, ↓DL.wALL, ↓DL.wCall, ↓DL.wIsa, ↓DL.wRaise, ↓DL.isB, ↓DL.dI0, ↓DL.dI, ↓DL.dU, ↓DL.dLen, ↓DL.dIx, ↓DL.gSubD, ↓DL.setD, ↓DL.wBM, ↓DL.isL, ↓DL.onL, ↓DL.dPopAt, ↓DL.dAppend, ↓DL.wIxV, ↓DL.wEqVL, ↓DL.wEqL, ↓DL.dEqS, ↓DL.dNeS, ↓DL.startD, List.map_cons, List.map_nil, List.length_cons, List.length_nil, List.cons_append, List.nil_append, List.replicate_succ, List.replicate_zero, List.getElem?_cons_zero, List.getElem?_cons_succ, List.set_cons_zero, List.set_cons_succ, Nat.reduceAdd, Nat.reduceSub, Nat.sub_self, ↓DL.kindD, ↓DL.dIsN, ↓DL.dNotN, ↓DL.isaB, String.reduceBEq, Bool.or_false, Bool.false_or, Bool.true_or, Bool.or_true, Bool.and_true, Bool.and_false, Bool.true_and, Bool.false_and, decide_true, decide_false, ↓DL.isNon, if_true, if_false, Bool.not_true, Bool.not_false, Bool.false_eq_true, reduceIte, true_and, and_true, ↓DL.dAddX, ↓DL.dMulX, ↓DL.dIxX, ↓DL.wSlX, ↓DL.dSlX, ↓DL.wSlL2, ↓DL.withL_rl, ↓DL.lsOf, ↓DL.wDerL, ↓DL.wFz, ↓DL.wFzR, ↓DL.frzD, ↓DL.wSide, ↓DL.wCatX, ↓DL.dEqA, ↓DL.scalEq, ↓DL.eqB, ↓DL.iLq, ↓DL.iSg, ↓DL.iEn, ↓DL.wM1, ↓DL.isStr, ↓DL.dJoin, ↓DL.dStrip, ↓DL.wSplit, ↓DL.dIntX, ↓DL.dInF, ↓DL.dInS, ↓DL.seqOf, ↓DL.wPar3, ↓DL.wFld, ↓DL.fldD, ↓DL.wSetF, ↓DL.setFD, ↓DL.wAugF, ↓DL.wMeth, ↓DL.recvD, ↓DL.wMake, ↓DL.fillP, ↓DL.wAsg2, ↓DL.gFldD, ↓DL.gStD, ↓DL.starV, ↓DL.gCs, ↓DL.gNl, ↓DL.gTp, Nat.add_zero, List.append_nil, List.zipWith_nil_left, List.zipWith_cons_cons, List.getD_cons_zero, ↓DL.wYes, reduceCtorEq, ↓DL.dEqX, ↓DL.dInD, DL.dataS_rl, DL.dataS_tup, DL.dataS_int, DL.dataS_str, DL.dataS_non, DL.dataD_nil, DL.dataD_ti, DL.dataD_li, ↓DL.isL2, ↓DL.dCountX, ↓DL.dIndexX, Option.isSome_some, ↓DL.dStrX]
      refine ⟨by rw [sizeLine_eq]; omega, ?_⟩
      by_cases hm : cutS x none (some 1) = "-"
      · rw [if_pos (by simpa using hm)]
        have lc := cutS_length x (some 1) none
        unfold figs at fin ex lx4
        rw [if_pos hm] at fin ex lx4
        refine ⟨by rw [sizeLine_eq]; omega, by rw [sizeLine_eq]; omega, ?_⟩
        by_cases l1 : 1 ≤ ((cutS x (some 1) none).length : Int)
        · rw [if_pos (by simpa using l1)]
          by_cases l4 : ((cutS x (some 1) none).length : Int) ≤ 4
          · rw [if_neg (by simpa using l4)]
            simp only [↓DL.wSeq, ↓DL.wSlT, ↓DL.wNo, ↓DL.wPart, ↓DL.dSlT, ↓DL.dCat, ↓DL.dListT, ↓DL.wFor, ↓DL.iR1, ↓DL.iR2, ↓DL.iTp, ↓DL.iLs, ↓DL.iNw, ↓DL.iLn, ↓DL.wNext, ↓DL.wIf, ↓DL.wRet, ↓DL.wRetN, ↓DL.wDrop, ↓DL.wAsg, ↓DL.gNm, ↓DL.wPar, ↓DL.wVar, ↓DL.wC, ↓DL.wOp, ↓DL.wUn, ↓DL.wTst, ↓DL.wChain, ↓DL.wAnd, ↓DL.wOr, ↓DL.wNot, ↓DL.wAndV, ↓DL.wOrV, ↓DL.wNotV, ↓DL.wIfE, ↓DL.wNil, ↓DL.wCons, ↓DL.wTup, ↓DL.wLst, ↓DL.wNew, ↓DL.wDer, ↓DL.wVL, ↓DL.wVLL, ↓DL.wALL, ↓DL.wCall, ↓DL.wIsa, ↓DL.wRaise, ↓DL.isB, ↓DL.dI0, ↓DL.dI, ↓DL.dU, ↓DL.dLen, ↓DL.dIx, ↓DL.gSubD, ↓DL.setD, ↓DL.wBM, ↓DL.isL, ↓DL.onL, ↓DL.dPopAt, ↓DL.dAppend, ↓DL.wIxV, ↓DL.wEqVL, ↓DL.wEqL, ↓DL.dEqS, ↓DL.dNeS, ↓DL.startD, List.map_cons, List.map_nil, List.length_cons, List.length_nil, List.cons_append, List.nil_append, List.replicate_succ, List.replicate_zero, List.getElem?_cons_zero, List.getElem?_cons_succ, List.set_cons_zero, List.set_cons_succ, Nat.reduceAdd, Nat.reduceSub, Nat.sub_self, ↓DL.kindD, ↓DL.dIsN, ↓DL.dNotN, ↓DL.isaB, String.reduceBEq, Bool.or_false, Bool.false_or, Bool.true_or, Bool.or_true, Bool.and_true, Bool.and_false, Bool.true_and, Bool.false_and, decide_true, decide_false, ↓DL.isNon, if_true, if_false, Bool.not_true, Bool.not_false, Bool.false_eq_true, reduceIte, true_and, and_true, ↓DL.dAddX, ↓DL.dMulX, ↓DL.dIxX, ↓DL.wSlX, ↓DL.dSlX, ↓DL.wSlL2, ↓DL.withL_rl, ↓DL.lsOf, ↓DL.wDerL, ↓DL.wFz, ↓DL.wFzR, ↓DL.frzD, ↓DL.wSide, ↓DL.wCatX, ↓DL.dEqA, ↓DL.scalEq, ↓DL.eqB, ↓DL.iLq, ↓DL.iSg, ↓DL.iEn, ↓DL.wM1, ↓DL.isStr, ↓DL.dJoin, ↓DL.dStrip, ↓DL.wSplit, ↓DL.dIntX, ↓DL.dInF, ↓DL.dInS, ↓DL.seqOf, ↓DL.wPar3, ↓DL.wFld, ↓DL.fldD, ↓DL.wSetF, ↓DL.setFD, ↓DL.wAugF, ↓DL.wMeth, ↓DL.recvD, ↓DL.wMake, ↓DL.fillP, ↓DL.wAsg2, ↓DL.gFldD, ↓DL.gStD, ↓DL.starV, ↓DL.gCs, ↓DL.gNl, ↓DL.gTp, Nat.add_zero, List.append_nil, List.zipWith_nil_left, List.zipWith_cons_cons, List.getD_cons_zero, ↓DL.wYes, reduceCtorEq, ↓DL.dEqX, ↓DL.dInD, DL.dataS_rl, DL.dataS_tup, DL.dataS_int, DL.dataS_str, DL.dataS_non, DL.dataD_nil, DL.dataD_ti, DL.dataD_li, ↓DL.isL2, ↓DL.dCountX, ↓DL.dIndexX, Option.isSome_some, ↓DL.dStrX, ↓wLc]
            refine lcW_map (fun d => match d with | .str y => .bl (isFigS y) | _ => .non) True.intro (by simp [sgnD]; have := sizeLine_eq; have : (cutS x (some 1) none).cps.size = (cutS x (some 1) none).length := rfl; omega) (fun d hd Kt Z k => ?_) ?_
            · obtain ⟨c, hc, rfl⟩ := List.mem_map.mp hd
              simp only [↓DL.wSeq, ↓DL.wSlT, ↓DL.wNo, ↓DL.wPart, ↓DL.dSlT, ↓DL.dCat, ↓DL.dListT, ↓DL.wFor, ↓DL.iR1, ↓DL.iR2, ↓DL.iTp, ↓DL.iLs, ↓DL.iNw, ↓DL.iLn, ↓DL.wNext, ↓DL.wIf, ↓DL.wRet, ↓DL.wRetN, ↓DL.wDrop, ↓DL.wAsg, ↓DL.gNm, ↓DL.wPar, ↓DL.wVar, ↓DL.wC, ↓DL.wOp, ↓DL.wUn, ↓DL.wTst, ↓DL.wChain, ↓DL.wAnd, ↓DL.wOr, ↓DL.wNot, ↓DL.wAndV, ↓DL.wOrV, ↓DL.wNotV, ↓DL.wIfE, ↓DL.wNil, ↓DL.wCons, ↓DL.wTup, ↓DL.wLst, ↓DL.wNew, ↓DL.wDer, ↓DL.wVL, ↓DL.wVLL, ↓DL.wALL, ↓DL.wCall, ↓DL.wIsa, ↓DL.wRaise, ↓DL.isB, ↓DL.dI0, ↓DL.dI, ↓DL.dU, ↓DL.dLen, ↓DL.dIx, ↓DL.gSubD, ↓DL.setD, ↓DL.wBM, ↓DL.isL, ↓DL.onL, ↓DL.dPopAt, ↓DL.dAppend, ↓DL.wIxV, ↓DL.wEqVL, ↓DL.wEqL, ↓DL.dEqS, ↓DL.dNeS, ↓DL.startD, List.map_cons, List.map_nil, List.length_cons, List.length_nil, List.cons_append, List.nil_append, List.replicate_succ, List.replicate_zero, List.getElem?_cons_zero, List.getElem?_cons_succ, List.set_cons_zero, List.set_cons_succ, Nat.reduceAdd, Nat.reduceSub, Nat.sub_self, ↓DL.kindD, ↓DL.dIsN, ↓DL.dNotN, ↓DL.isaB, String.reduceBEq, Bool.or_false, Bool.false_or, Bool.true_or, Bool.or_true, Bool.and_true, Bool.and_false, Bool.true_and, Bool.false_and, decide_true, decide_false, ↓DL.isNon, if_true, if_false, Bool.not_true, Bool.not_false, Bool.false_eq_true, reduceIte, true_and, and_true, ↓DL.dAddX, ↓DL.dMulX, ↓DL.dIxX, ↓DL.wSlX, ↓DL.dSlX, ↓DL.wSlL2, ↓DL.withL_rl, ↓DL.lsOf, ↓DL.wDerL, ↓DL.wFz, ↓DL.wFzR, ↓DL.frzD, ↓DL.wSide, ↓DL.wCatX, ↓DL.dEqA, ↓DL.scalEq, ↓DL.eqB, ↓DL.iLq, ↓DL.iSg, ↓DL.iEn, ↓DL.wM1, ↓DL.isStr, ↓DL.dJoin, ↓DL.dStrip, ↓DL.wSplit, ↓DL.dIntX, ↓DL.dInF, ↓DL.dInS, ↓DL.seqOf, ↓DL.wPar3, ↓DL.wFld, ↓DL.fldD, ↓DL.wSetF, ↓DL.setFD, ↓DL.wAugF, ↓DL.wMeth, ↓DL.recvD, ↓DL.wMake, ↓DL.fillP, ↓DL.wAsg2, ↓DL.gFldD, ↓DL.gStD, ↓DL.starV, ↓DL.gCs, ↓DL.gNl, ↓DL.gTp, Nat.add_zero, List.append_nil, List.zipWith_nil_left, List.zipWith_cons_cons, List.getD_cons_zero, ↓DL.wYes, reduceCtorEq, ↓DL.dEqX, ↓DL.dInD, DL.dataS_rl, DL.dataS_tup, DL.dataS_int, DL.dataS_str, DL.dataS_non, DL.dataD_nil, DL.dataD_ti, DL.dataD_li, ↓DL.isL2, ↓DL.dCountX, ↓DL.dIndexX, Option.isSome_some, ↓DL.dStrX, wipeD]
              exact k
            · have em : List.map (fun d => match d with | .str y => D.bl (isFigS y) | _ => .non) (sgnD (cutS x (some 1) none)) = (cutS x (some 1) none).cps.toList.map fun c => .bl (isFig c) := by
                unfold sgnD
                rw [List.map_map]
                rfl
              rw [List.nil_append, em]
              refine dAll_map ?_
              cases al : (cutS x (some 1) none).cps.toList.all isFig with
              | false =>
                simp only [↓DL.wSeq, ↓DL.wSlT, ↓DL.wNo, ↓DL.wPart, ↓DL.dSlT, ↓DL.dCat, ↓DL.dListT, ↓DL.wFor, ↓DL.iR1, ↓DL.iR2, ↓DL.iTp, ↓DL.iLs, ↓DL.iNw, ↓DL.iLn, ↓DL.wNext, ↓DL.wIf, ↓DL.wRet, ↓DL.wRetN, ↓DL.wDrop, ↓DL.wAsg, ↓DL.gNm, ↓DL.wPar, ↓DL.wVar, ↓DL.wC, ↓DL.wOp, ↓DL.wUn, ↓DL.wTst, ↓DL.wChain, ↓DL.wAnd, ↓DL.wOr, ↓DL.wNot, ↓DL.wAndV, ↓DL.wOrV, ↓DL.wNotV, ↓DL.wIfE, ↓DL.wNil, ↓DL.wCons, ↓DL.wTup, ↓DL.wLst, ↓DL.wNew, ↓DL.wDer, ↓DL.wVL, ↓DL.wVLL, ↓DL.wALL, ↓DL.wCall, ↓DL.wIsa, ↓DL.wRaise, ↓DL.isB, ↓DL.dI0, ↓DL.dI, ↓DL.dU, ↓DL.dLen, ↓DL.dIx, ↓DL.gSubD, ↓DL.setD, ↓DL.wBM, ↓DL.isL, ↓DL.onL, ↓DL.dPopAt, ↓DL.dAppend, ↓DL.wIxV, ↓DL.wEqVL, ↓DL.wEqL, ↓DL.dEqS, ↓DL.dNeS, ↓DL.startD, List.map_cons, List.map_nil, List.length_cons, List.length_nil, List.cons_append, List.nil_append, List.replicate_succ, List.replicate_zero, List.getElem?_cons_zero, List.getElem?_cons_succ, List.set_cons_zero, List.set_cons_succ, Nat.reduceAdd, Nat.reduceSub, Nat.sub_self, ↓DL.kindD, ↓DL.dIsN, ↓DL.dNotN, ↓DL.isaB, String.reduceBEq, Bool.or_false, Bool.false_or, Bool.true_or, Bool.or_true, Bool.and_true, Bool.and_false, Bool.true_and, Bool.false_and, decide_true, decide_false, ↓DL.isNon, if_true, if_false, Bool.not_true, Bool.not_false, Bool.false_eq_true, reduceIte, true_and, and_true, ↓DL.dAddX, ↓DL.dMulX, ↓DL.dIxX, ↓DL.wSlX, ↓DL.dSlX, ↓DL.wSlL2, ↓DL.withL_rl, ↓DL.lsOf, ↓DL.wDerL, ↓DL.wFz, ↓DL.wFzR, ↓DL.frzD, ↓DL.wSide, ↓DL.wCatX, ↓DL.dEqA, ↓DL.scalEq, ↓DL.eqB, ↓DL.iLq, ↓DL.iSg, ↓DL.iEn, ↓DL.wM1, ↓DL.isStr, ↓DL.dJoin, ↓DL.dStrip, ↓DL.wSplit, ↓DL.dIntX, ↓DL.dInF, ↓DL.dInS, ↓DL.seqOf, ↓DL.wPar3, ↓DL.wFld, ↓DL.fldD, ↓DL.wSetF, ↓DL.setFD, ↓DL.wAugF, ↓DL.wMeth, ↓DL.recvD, ↓DL.wMake, ↓DL.fillP, ↓DL.wAsg2, ↓DL.gFldD, ↓DL.gStD, ↓DL.starV, ↓DL.gCs, ↓DL.gNl, ↓DL.gTp, Nat.add_zero, List.append_nil, List.zipWith_nil_left, List.zipWith_cons_cons, List.getD_cons_zero, ↓DL.wYes, reduceCtorEq, ↓DL.dEqX, ↓DL.dInD, DL.dataS_rl, DL.dataS_tup, DL.dataS_int, DL.dataS_str, DL.dataS_non, DL.dataD_nil, DL.dataD_ti, DL.dataD_li, ↓DL.isL2, ↓DL.dCountX, ↓DL.dIndexX, Option.isSome_some, ↓DL.dStrX]
                exact fin _ (by unfold numOfF; rw [if_neg (by simp [al])])
              | true =>
                have ne : (cutS x (some 1) none).cps.toList ≠ [] := fun z => by
                  have : (cutS x (some 1) none).length = (cutS x (some 1) none).cps.toList.length := Array.length_toList.symm
                  rw [z] at this
                  simp at this
                  omega
                obtain ⟨n, en⟩ := ex (by omega) al ne
                obtain ⟨c, r, ec⟩ := List.exists_cons_of_ne_nil ne
                have hn : numOfF x (cutS x (some 1) none) = if c = 48 ∧ x ≠ "0" then .non else .int n := by
                  unfold numOfF
                  rw [if_pos ⟨by omega, by omega, al⟩, en, ec]
                  simp
                simp only [↓DL.wSeq, ↓DL.wSlT, ↓DL.wNo, ↓DL.wPart, ↓DL.dSlT, ↓DL.dCat, ↓DL.dListT, ↓DL.wFor, ↓DL.iR1, ↓DL.iR2, ↓DL.iTp, ↓DL.iLs, ↓DL.iNw, ↓DL.iLn, ↓DL.wNext, ↓DL.wIf, ↓DL.wRet, ↓DL.wRetN, ↓DL.wDrop, ↓DL.wAsg, ↓DL.gNm, ↓DL.wPar, ↓DL.wVar, ↓DL.wC, ↓DL.wOp, ↓DL.wUn, ↓DL.wTst, ↓DL.wChain, ↓DL.wAnd, ↓DL.wOr, ↓DL.wNot, ↓DL.wAndV, ↓DL.wOrV, ↓DL.wNotV, ↓DL.wIfE, ↓DL.wNil, ↓DL.wCons, ↓DL.wTup, ↓DL.wLst, ↓DL.wNew, ↓DL.wDer, ↓DL.wVL, ↓DL.wVLL, ↓DL.wALL, ↓DL.wCall, ↓DL.wIsa, ↓DL.wRaise, ↓DL.isB, ↓DL.dI0, ↓DL.dI, ↓DL.dU, ↓DL.dLen, ↓DL.dIx, ↓DL.gSubD, ↓DL.setD, ↓DL.wBM, ↓DL.isL, ↓DL.onL, ↓DL.dPopAt, ↓DL.dAppend, ↓DL.wIxV, ↓DL.wEqVL, ↓DL.wEqL, ↓DL.dEqS, ↓DL.dNeS, ↓DL.startD, List.map_cons, List.map_nil, List.length_cons, List.length_nil, List.cons_append, List.nil_append, List.replicate_succ, List.replicate_zero, List.getElem?_cons_zero, List.getElem?_cons_succ, List.set_cons_zero, List.set_cons_succ, Nat.reduceAdd, Nat.reduceSub, Nat.sub_self, ↓DL.kindD, ↓DL.dIsN, ↓DL.dNotN, ↓DL.isaB, String.reduceBEq, Bool.or_false, Bool.false_or, Bool.true_or, Bool.or_true, Bool.and_true, Bool.and_false, Bool.true_and, Bool.false_and, decide_true, decide_false, ↓DL.isNon, if_true, if_false, Bool.not_true, Bool.not_false, Bool.false_eq_true, reduceIte, true_and, and_true, ↓DL.dAddX, ↓DL.dMulX, ↓DL.dIxX, ↓DL.wSlX, ↓DL.dSlX, ↓DL.wSlL2, ↓DL.withL_rl, ↓DL.lsOf, ↓DL.wDerL, ↓DL.wFz, ↓DL.wFzR, ↓DL.frzD, ↓DL.wSide, ↓DL.wCatX, ↓DL.dEqA, ↓DL.scalEq, ↓DL.eqB, ↓DL.iLq, ↓DL.iSg, ↓DL.iEn, ↓DL.wM1, ↓DL.isStr, ↓DL.dJoin, ↓DL.dStrip, ↓DL.wSplit, ↓DL.dIntX, ↓DL.dInF, ↓DL.dInS, ↓DL.seqOf, ↓DL.wPar3, ↓DL.wFld, ↓DL.fldD, ↓DL.wSetF, ↓DL.setFD, ↓DL.wAugF, ↓DL.wMeth, ↓DL.recvD, ↓DL.wMake, ↓DL.fillP, ↓DL.wAsg2, ↓DL.gFldD, ↓DL.gStD, ↓DL.starV, ↓DL.gCs, ↓DL.gNl, ↓DL.gTp, Nat.add_zero, List.append_nil, List.zipWith_nil_left, List.zipWith_cons_cons, List.getD_cons_zero, ↓DL.wYes, reduceCtorEq, ↓DL.dEqX, ↓DL.dInD, DL.dataS_rl, DL.dataS_tup, DL.dataS_int, DL.dataS_str, DL.dataS_non, DL.dataD_nil, DL.dataD_ti, DL.dataD_li, ↓DL.isL2, ↓DL.dCountX, ↓DL.dIndexX, Option.isSome_some, ↓DL.dStrX]
                refine ⟨by rw [sizeLine_eq]; omega, ?_⟩
                rw [ec]
                simp only [↓DL.wSeq, ↓DL.wSlT, ↓DL.wNo, ↓DL.wPart, ↓DL.dSlT, ↓DL.dCat, ↓DL.dListT, ↓DL.wFor, ↓DL.iR1, ↓DL.iR2, ↓DL.iTp, ↓DL.iLs, ↓DL.iNw, ↓DL.iLn, ↓DL.wNext, ↓DL.wIf, ↓DL.wRet, ↓DL.wRetN, ↓DL.wDrop, ↓DL.wAsg, ↓DL.gNm, ↓DL.wPar, ↓DL.wVar, ↓DL.wC, ↓DL.wOp, ↓DL.wUn, ↓DL.wTst, ↓DL.wChain, ↓DL.wAnd, ↓DL.wOr, ↓DL.wNot, ↓DL.wAndV, ↓DL.wOrV, ↓DL.wNotV, ↓DL.wIfE, ↓DL.wNil, ↓DL.wCons, ↓DL.wTup, ↓DL.wLst, ↓DL.wNew, ↓DL.wDer, ↓DL.wVL, ↓DL.wVLL, ↓DL.wALL, ↓DL.wCall, ↓DL.wIsa, ↓DL.wRaise, ↓DL.isB, ↓DL.dI0, ↓DL.dI, ↓DL.dU, ↓DL.dLen, ↓DL.dIx, ↓DL.gSubD, ↓DL.setD, ↓DL.wBM, ↓DL.isL, ↓DL.onL, ↓DL.dPopAt, ↓DL.dAppend, ↓DL.wIxV, ↓DL.wEqVL, ↓DL.wEqL, ↓DL.dEqS, ↓DL.dNeS, ↓DL.startD, List.map_cons, List.map_nil, List.length_cons, List.length_nil, List.cons_append, List.nil_append, List.replicate_succ, List.replicate_zero, List.getElem?_cons_zero, List.getElem?_cons_succ, List.set_cons_zero, List.set_cons_succ, Nat.reduceAdd, Nat.reduceSub, Nat.sub_self, ↓DL.kindD, ↓DL.dIsN, ↓DL.dNotN, ↓DL.isaB, String.reduceBEq, Bool.or_false, Bool.false_or, Bool.true_or, Bool.or_true, Bool.and_true, Bool.and_false, Bool.true_and, Bool.false_and, decide_true, decide_false, ↓DL.isNon, if_true, if_false, Bool.not_true, Bool.not_false, Bool.false_eq_true, reduceIte, true_and, and_true, ↓DL.dAddX, ↓DL.dMulX, ↓DL.dIxX, ↓DL.wSlX, ↓DL.dSlX, ↓DL.wSlL2, ↓DL.withL_rl, ↓DL.lsOf, ↓DL.wDerL, ↓DL.wFz, ↓DL.wFzR, ↓DL.frzD, ↓DL.wSide, ↓DL.wCatX, ↓DL.dEqA, ↓DL.scalEq, ↓DL.eqB, ↓DL.iLq, ↓DL.iSg, ↓DL.iEn, ↓DL.wM1, ↓DL.isStr, ↓DL.dJoin, ↓DL.dStrip, ↓DL.wSplit, ↓DL.dIntX, ↓DL.dInF, ↓DL.dInS, ↓DL.seqOf, ↓DL.wPar3, ↓DL.wFld, ↓DL.fldD, ↓DL.wSetF, ↓DL.setFD, ↓DL.wAugF, ↓DL.wMeth, ↓DL.recvD, ↓DL.wMake, ↓DL.fillP, ↓DL.wAsg2, ↓DL.gFldD, ↓DL.gStD, ↓DL.starV, ↓DL.gCs, ↓DL.gNl, ↓DL.gTp, Nat.add_zero, List.append_nil, List.zipWith_nil_left, List.zipWith_cons_cons, List.getD_cons_zero, ↓DL.wYes, reduceCtorEq, ↓DL.dEqX, ↓DL.dInD, DL.dataS_rl, DL.dataS_tup, DL.dataS_int, DL.dataS_str, DL.dataS_non, DL.dataD_nil, DL.dataD_ti, DL.dataD_li, ↓DL.isL2, ↓DL.dCountX, ↓DL.dIndexX, Option.isSome_some, ↓DL.dStrX, atI0, en]
                have e0 : decide (({ cps := #[c] } : Str) = "0") = decide (c = 48) := by
                  by_cases q : c = 48
                  · subst q; rfl
                  · rw [decide_eq_false q, decide_eq_false fun z => q ?_]
                    have := congrArg (fun s : Str => s.cps.toList) z
                    have z3 : [c] = [48] := this
                    simpa using z3
                rw [e0]
                by_cases q : c = 48
                · rw [if_pos (by simpa using q)]
                  by_cases q2 : x = "0"
                  · rw [if_neg (by simpa using q2)]
                    exact ⟨lx4 (by omega), fin _ (by rw [hn, if_neg (fun z => z.2 q2)])⟩
                  · rw [if_pos (by simpa using q2)]
                    exact fin _ (by rw [hn, if_pos ⟨q, q2⟩])
                · rw [if_neg (by simpa using q)]
                  exact ⟨lx4 (by omega), fin _ (by rw [hn, if_neg (fun z => q z.1)])⟩
          · rw [if_pos (by simpa using l4)]
            exact fin _ (by unfold numOfF; rw [if_neg (fun z => l4 (by omega))])
        · rw [if_neg (by simpa using l1)]
          exact fin _ (by unfold numOfF; rw [if_neg (fun z => l1 (by omega))])
      · rw [if_neg (by simpa using hm)]
        unfold figs at fin ex lx4
        rw [if_neg hm] at fin ex lx4
        refine ⟨by rw [sizeLine_eq]; omega, ?_⟩
        by_cases l1 : 1 ≤ (x.length : Int)
        · rw [if_pos (by simpa using l1)]
          by_cases l4 : (x.length : Int) ≤ 4
          · rw [if_neg (by simpa using l4)]
            simp only [↓DL.wSeq, ↓DL.wSlT, ↓DL.wNo, ↓DL.wPart, ↓DL.dSlT, ↓DL.dCat, ↓DL.dListT, ↓DL.wFor, ↓DL.iR1, ↓DL.iR2, ↓DL.iTp, ↓DL.iLs, ↓DL.iNw, ↓DL.iLn, ↓DL.wNext, ↓DL.wIf, ↓DL.wRet, ↓DL.wRetN, ↓DL.wDrop, ↓DL.wAsg, ↓DL.gNm, ↓DL.wPar, ↓DL.wVar, ↓DL.wC, ↓DL.wOp, ↓DL.wUn, ↓DL.wTst, ↓DL.wChain, ↓DL.wAnd, ↓DL.wOr, ↓DL.wNot, ↓DL.wAndV, ↓DL.wOrV, ↓DL.wNotV, ↓DL.wIfE, ↓DL.wNil, ↓DL.wCons, ↓DL.wTup, ↓DL.wLst, ↓DL.wNew, ↓DL.wDer, ↓DL.wVL, ↓DL.wVLL, ↓DL.wALL, ↓DL.wCall, ↓DL.wIsa, ↓DL.wRaise, ↓DL.isB, ↓DL.dI0, ↓DL.dI, ↓DL.dU, ↓DL.dLen, ↓DL.dIx, ↓DL.gSubD, ↓DL.setD, ↓DL.wBM, ↓DL.isL, ↓DL.onL, ↓DL.dPopAt, ↓DL.dAppend, ↓DL.wIxV, ↓DL.wEqVL, ↓DL.wEqL, ↓DL.dEqS, ↓DL.dNeS, ↓DL.startD, List.map_cons, List.map_nil, List.length_cons, List.length_nil, List.cons_append, List.nil_append, List.replicate_succ, List.replicate_zero, List.getElem?_cons_zero, List.getElem?_cons_succ, List.set_cons_zero, List.set_cons_succ, Nat.reduceAdd, Nat.reduceSub, Nat.sub_self, ↓DL.kindD, ↓DL.dIsN, ↓DL.dNotN, ↓DL.isaB, String.reduceBEq, Bool.or_false, Bool.false_or, Bool.true_or, Bool.or_true, Bool.and_true, Bool.and_false, Bool.true_and, Bool.false_and, decide_true, decide_false, ↓DL.isNon, if_true, if_false, Bool.not_true, Bool.not_false, Bool.false_eq_true, reduceIte, true_and, and_true, ↓DL.dAddX, ↓DL.dMulX, ↓DL.dIxX, ↓DL.wSlX, ↓DL.dSlX, ↓DL.wSlL2, ↓DL.withL_rl, ↓DL.lsOf, ↓DL.wDerL, ↓DL.wFz, ↓DL.wFzR, ↓DL.frzD, ↓DL.wSide, ↓DL.wCatX, ↓DL.dEqA, ↓DL.scalEq, ↓DL.eqB, ↓DL.iLq, ↓DL.iSg, ↓DL.iEn, ↓DL.wM1, ↓DL.isStr, ↓DL.dJoin, ↓DL.dStrip, ↓DL.wSplit, ↓DL.dIntX, ↓DL.dInF, ↓DL.dInS, ↓DL.seqOf, ↓DL.wPar3, ↓DL.wFld, ↓DL.fldD, ↓DL.wSetF, ↓DL.setFD, ↓DL.wAugF, ↓DL.wMeth, ↓DL.recvD, ↓DL.wMake, ↓DL.fillP, ↓DL.wAsg2, ↓DL.gFldD, ↓DL.gStD, ↓DL.starV, ↓DL.gCs, ↓DL.gNl, ↓DL.gTp, Nat.add_zero, List.append_nil, List.zipWith_nil_left, List.zipWith_cons_cons, List.getD_cons_zero, ↓DL.wYes, reduceCtorEq, ↓DL.dEqX, ↓DL.dInD, DL.dataS_rl, DL.dataS_tup, DL.dataS_int, DL.dataS_str, DL.dataS_non, DL.dataD_nil, DL.dataD_ti, DL.dataD_li, ↓DL.isL2, ↓DL.dCountX, ↓DL.dIndexX, Option.isSome_some, ↓DL.dStrX, ↓wLc]
            refine lcW_map (fun d => match d with | .str y => .bl (isFigS y) | _ => .non) True.intro (by simp [sgnD]; have := sizeLine_eq; have : x.cps.size = x.length := rfl; omega) (fun d hd Kt Z k => ?_) ?_
            · obtain ⟨c, hc, rfl⟩ := List.mem_map.mp hd
              simp only [↓DL.wSeq, ↓DL.wSlT, ↓DL.wNo, ↓DL.wPart, ↓DL.dSlT, ↓DL.dCat, ↓DL.dListT, ↓DL.wFor, ↓DL.iR1, ↓DL.iR2, ↓DL.iTp, ↓DL.iLs, ↓DL.iNw, ↓DL.iLn, ↓DL.wNext, ↓DL.wIf, ↓DL.wRet, ↓DL.wRetN, ↓DL.wDrop, ↓DL.wAsg, ↓DL.gNm, ↓DL.wPar, ↓DL.wVar, ↓DL.wC, ↓DL.wOp, ↓DL.wUn, ↓DL.wTst, ↓DL.wChain, ↓DL.wAnd, ↓DL.wOr, ↓DL.wNot, ↓DL.wAndV, ↓DL.wOrV, ↓DL.wNotV, ↓DL.wIfE, ↓DL.wNil, ↓DL.wCons, ↓DL.wTup, ↓DL.wLst, ↓DL.wNew, ↓DL.wDer, ↓DL.wVL, ↓DL.wVLL, ↓DL.wALL, ↓DL.wCall, ↓DL.wIsa, ↓DL.wRaise, ↓DL.isB, ↓DL.dI0, ↓DL.dI, ↓DL.dU, ↓DL.dLen, ↓DL.dIx, ↓DL.gSubD, ↓DL.setD, ↓DL.wBM, ↓DL.isL, ↓DL.onL, ↓DL.dPopAt, ↓DL.dAppend, ↓DL.wIxV, ↓DL.wEqVL, ↓DL.wEqL, ↓DL.dEqS, ↓DL.dNeS, ↓DL.startD, List.map_cons, List.map_nil, List.length_cons, List.length_nil, List.cons_append, List.nil_append, List.replicate_succ, List.replicate_zero, List.getElem?_cons_zero, List.getElem?_cons_succ, List.set_cons_zero, List.set_cons_succ, Nat.reduceAdd, Nat.reduceSub, Nat.sub_self, ↓DL.kindD, ↓DL.dIsN, ↓DL.dNotN, ↓DL.isaB, String.reduceBEq, Bool.or_false, Bool.false_or, Bool.true_or, Bool.or_true, Bool.and_true, Bool.and_false, Bool.true_and, Bool.false_and, decide_true, decide_false, ↓DL.isNon, if_true, if_false, Bool.not_true, Bool.not_false, Bool.false_eq_true, reduceIte, true_and, and_true, ↓DL.dAddX, ↓DL.dMulX, ↓DL.dIxX, ↓DL.wSlX, ↓DL.dSlX, ↓DL.wSlL2, ↓DL.withL_rl, ↓DL.lsOf, ↓DL.wDerL, ↓DL.wFz, ↓DL.wFzR, ↓DL.frzD, ↓DL.wSide, ↓DL.wCatX, ↓DL.dEqA, ↓DL.scalEq, ↓DL.eqB, ↓DL.iLq, ↓DL.iSg, ↓DL.iEn, ↓DL.wM1, ↓DL.isStr, ↓DL.dJoin, ↓DL.dStrip, ↓DL.wSplit, ↓DL.dIntX, ↓DL.dInF, ↓DL.dInS, ↓DL.seqOf, ↓DL.wPar3, ↓DL.wFld, ↓DL.fldD, ↓DL.wSetF, ↓DL.setFD, ↓DL.wAugF, ↓DL.wMeth, ↓DL.recvD, ↓DL.wMake, ↓DL.fillP, ↓DL.wAsg2, ↓DL.gFldD, ↓DL.gStD, ↓DL.starV, ↓DL.gCs, ↓DL.gNl, ↓DL.gTp, Nat.add_zero, List.append_nil, List.zipWith_nil_left, List.zipWith_cons_cons, List.getD_cons_zero, ↓DL.wYes, reduceCtorEq, ↓DL.dEqX, ↓DL.dInD, DL.dataS_rl, DL.dataS_tup, DL.dataS_int, DL.dataS_str, DL.dataS_non, DL.dataD_nil, DL.dataD_ti, DL.dataD_li, ↓DL.isL2, ↓DL.dCountX, ↓DL.dIndexX, Option.isSome_some, ↓DL.dStrX, wipeD]
              exact k
            · have em : List.map (fun d => match d with | .str y => D.bl (isFigS y) | _ => .non) (sgnD x) = x.cps.toList.map fun c => .bl (isFig c) := by
                unfold sgnD
                rw [List.map_map]
                rfl
              rw [List.nil_append, em]
              refine dAll_map ?_
              cases al : x.cps.toList.all isFig with
              | false =>
                simp only [↓DL.wSeq, ↓DL.wSlT, ↓DL.wNo, ↓DL.wPart, ↓DL.dSlT, ↓DL.dCat, ↓DL.dListT, ↓DL.wFor, ↓DL.iR1, ↓DL.iR2, ↓DL.iTp, ↓DL.iLs, ↓DL.iNw, ↓DL.iLn, ↓DL.wNext, ↓DL.wIf, ↓DL.wRet, ↓DL.wRetN, ↓DL.wDrop, ↓DL.wAsg, ↓DL.gNm, ↓DL.wPar, ↓DL.wVar, ↓DL.wC, ↓DL.wOp, ↓DL.wUn, ↓DL.wTst, ↓DL.wChain, ↓DL.wAnd, ↓DL.wOr, ↓DL.wNot, ↓DL.wAndV, ↓DL.wOrV, ↓DL.wNotV, ↓DL.wIfE, ↓DL.wNil, ↓DL.wCons, ↓DL.wTup, ↓DL.wLst, ↓DL.wNew, ↓DL.wDer, ↓DL.wVL, ↓DL.wVLL, ↓DL.wALL, ↓DL.wCall, ↓DL.wIsa, ↓DL.wRaise, ↓DL.isB, ↓DL.dI0, ↓DL.dI, ↓DL.dU, ↓DL.dLen, ↓DL.dIx, ↓DL.gSubD, ↓DL.setD, ↓DL.wBM, ↓DL.isL, ↓DL.onL, ↓DL.dPopAt, ↓DL.dAppend, ↓DL.wIxV, ↓DL.wEqVL, ↓DL.wEqL, ↓DL.dEqS, ↓DL.dNeS, ↓DL.startD, List.map_cons, List.map_nil, List.length_cons, List.length_nil, List.cons_append, List.nil_append, List.replicate_succ, List.replicate_zero, List.getElem?_cons_zero, List.getElem?_cons_succ, List.set_cons_zero, List.set_cons_succ, Nat.reduceAdd, Nat.reduceSub, Nat.sub_self, ↓DL.kindD, ↓DL.dIsN, ↓DL.dNotN, ↓DL.isaB, String.reduceBEq, Bool.or_false, Bool.false_or, Bool.true_or, Bool.or_true, Bool.and_true, Bool.and_false, Bool.true_and, Bool.false_and, decide_true, decide_false, ↓DL.isNon, if_true, if_false, Bool.not_true, Bool.not_false, Bool.false_eq_true, reduceIte, true_and, and_true, ↓DL.dAddX, ↓DL.dMulX, ↓DL.dIxX, ↓DL.wSlX, ↓DL.dSlX, ↓DL.wSlL2, ↓DL.withL_rl, ↓DL.lsOf, ↓DL.wDerL, ↓DL.wFz, ↓DL.wFzR, ↓DL.frzD, ↓DL.wSide, ↓DL.wCatX, ↓DL.dEqA, ↓DL.scalEq, ↓DL.eqB, ↓DL.iLq, ↓DL.iSg, ↓DL.iEn, ↓DL.wM1, ↓DL.isStr, ↓DL.dJoin, ↓DL.dStrip, ↓DL.wSplit, ↓DL.dIntX, ↓DL.dInF, ↓DL.dInS, ↓DL.seqOf, ↓DL.wPar3, ↓DL.wFld, ↓DL.fldD, ↓DL.wSetF, ↓DL.setFD, ↓DL.wAugF, ↓DL.wMeth, ↓DL.recvD, ↓DL.wMake, ↓DL.fillP, ↓DL.wAsg2, ↓DL.gFldD, ↓DL.gStD, ↓DL.starV, ↓DL.gCs, ↓DL.gNl, ↓DL.gTp, Nat.add_zero, List.append_nil, List.zipWith_nil_left, List.zipWith_cons_cons, List.getD_cons_zero, ↓DL.wYes, reduceCtorEq, ↓DL.dEqX, ↓DL.dInD, DL.dataS_rl, DL.dataS_tup, DL.dataS_int, DL.dataS_str, DL.dataS_non, DL.dataD_nil, DL.dataD_ti, DL.dataD_li, ↓DL.isL2, ↓DL.dCountX, ↓DL.dIndexX, Option.isSome_some, ↓DL.dStrX]
                exact fin _ (by unfold numOfF; rw [if_neg (by simp [al])])
              | true =>
                have ne : x.cps.toList ≠ [] := fun z => by
                  have : x.length = x.cps.toList.length := Array.length_toList.symm
                  rw [z] at this
                  simp at this
                  omega
                obtain ⟨n, en⟩ := ex (by omega) al ne
                obtain ⟨c, r, ec⟩ := List.exists_cons_of_ne_nil ne
                have hn : numOfF x x = if c = 48 ∧ x ≠ "0" then .non else .int n := by
                  unfold numOfF
                  rw [if_pos ⟨by omega, by omega, al⟩, en, ec]
                  simp
                simp only [↓DL.wSeq, ↓DL.wSlT, ↓DL.wNo, ↓DL.wPart, ↓DL.dSlT, ↓DL.dCat, ↓DL.dListT, ↓DL.wFor, ↓DL.iR1, ↓DL.iR2, ↓DL.iTp, ↓DL.iLs, ↓DL.iNw, ↓DL.iLn, ↓DL.wNext, ↓DL.wIf, ↓DL.wRet, ↓DL.wRetN, ↓DL.wDrop, ↓DL.wAsg, ↓DL.gNm, ↓DL.wPar, ↓DL.wVar, ↓DL.wC, ↓DL.wOp, ↓DL.wUn, ↓DL.wTst, ↓DL.wChain, ↓DL.wAnd, ↓DL.wOr, ↓DL.wNot, ↓DL.wAndV, ↓DL.wOrV, ↓DL.wNotV, ↓DL.wIfE, ↓DL.wNil, ↓DL.wCons, ↓DL.wTup, ↓DL.wLst, ↓DL.wNew, ↓DL.wDer, ↓DL.wVL, ↓DL.wVLL, ↓DL.wALL, ↓DL.wCall, ↓DL.wIsa, ↓DL.wRaise, ↓DL.isB, ↓DL.dI0, ↓DL.dI, ↓DL.dU, ↓DL.dLen, ↓DL.dIx, ↓DL.gSubD, ↓DL.setD, ↓DL.wBM, ↓DL.isL, ↓DL.onL, ↓DL.dPopAt, ↓DL.dAppend, ↓DL.wIxV, ↓DL.wEqVL, ↓DL.wEqL, ↓DL.dEqS, ↓DL.dNeS, ↓DL.startD, List.map_cons, List.map_nil, List.length_cons, List.length_nil, List.cons_append, List.nil_append, List.replicate_succ, List.replicate_zero, List.getElem?_cons_zero, List.getElem?_cons_succ, List.set_cons_zero, List.set_cons_succ, Nat.reduceAdd, Nat.reduceSub, Nat.sub_self, ↓DL.kindD, ↓DL.dIsN, ↓DL.dNotN, ↓DL.isaB, String.reduceBEq, Bool.or_false, Bool.false_or, Bool.true_or, Bool.or_true, Bool.and_true, Bool.and_false, Bool.true_and, Bool.false_and, decide_true, decide_false, ↓DL.isNon, if_true, if_false, Bool.not_true, Bool.not_false, Bool.false_eq_true, reduceIte, true_and, and_true, ↓DL.dAddX, ↓DL.dMulX, ↓DL.dIxX, ↓DL.wSlX, ↓DL.dSlX, ↓DL.wSlL2, ↓DL.withL_rl, ↓DL.lsOf, ↓DL.wDerL, ↓DL.wFz, ↓DL.wFzR, ↓DL.frzD, ↓DL.wSide, ↓DL.wCatX, ↓DL.dEqA, ↓DL.scalEq, ↓DL.eqB, ↓DL.iLq, ↓DL.iSg, ↓DL.iEn, ↓DL.wM1, ↓DL.isStr, ↓DL.dJoin, ↓DL.dStrip, ↓DL.wSplit, ↓DL.dIntX, ↓DL.dInF, ↓DL.dInS, ↓DL.seqOf, ↓DL.wPar3, ↓DL.wFld, ↓DL.fldD, ↓DL.wSetF, ↓DL.setFD, ↓DL.wAugF, ↓DL.wMeth, ↓DL.recvD, ↓DL.wMake, ↓DL.fillP, ↓DL.wAsg2, ↓DL.gFldD, ↓DL.gStD, ↓DL.starV, ↓DL.gCs, ↓DL.gNl, ↓DL.gTp, Nat.add_zero, List.append_nil, List.zipWith_nil_left, List.zipWith_cons_cons, List.getD_cons_zero, ↓DL.wYes, reduceCtorEq, ↓DL.dEqX, ↓DL.dInD, DL.dataS_rl, DL.dataS_tup, DL.dataS_int, DL.dataS_str, DL.dataS_non, DL.dataD_nil, DL.dataD_ti, DL.dataD_li, ↓DL.isL2, ↓DL.dCountX, ↓DL.dIndexX, Option.isSome_some, ↓DL.dStrX]
                refine ⟨by rw [sizeLine_eq]; omega, ?_⟩
                rw [ec]
                simp only [↓DL.wSeq, ↓DL.wSlT, ↓DL.wNo, ↓DL.wPart, ↓DL.dSlT, ↓DL.dCat, ↓DL.dListT, ↓DL.wFor, ↓DL.iR1, ↓DL.iR2, ↓DL.iTp, ↓DL.iLs, ↓DL.iNw, ↓DL.iLn, ↓DL.wNext, ↓DL.wIf, ↓DL.wRet, ↓DL.wRetN, ↓DL.wDrop, ↓DL.wAsg, ↓DL.gNm, ↓DL.wPar, ↓DL.wVar, ↓DL.wC, ↓DL.wOp, ↓DL.wUn, ↓DL.wTst, ↓DL.wChain, ↓DL.wAnd, ↓DL.wOr, ↓DL.wNot, ↓DL.wAndV, ↓DL.wOrV, ↓DL.wNotV, ↓DL.wIfE, ↓DL.wNil, ↓DL.wCons, ↓DL.wTup, ↓DL.wLst, ↓DL.wNew, ↓DL.wDer, ↓DL.wVL, ↓DL.wVLL, ↓DL.wALL, ↓DL.wCall, ↓DL.wIsa, ↓DL.wRaise, ↓DL.isB, ↓DL.dI0, ↓DL.dI, ↓DL.dU, ↓DL.dLen, ↓DL.dIx, ↓DL.gSubD, ↓DL.setD, ↓DL.wBM, ↓DL.isL, ↓DL.onL, ↓DL.dPopAt, ↓DL.dAppend, ↓DL.wIxV, ↓DL.wEqVL, ↓DL.wEqL, ↓DL.dEqS, ↓DL.dNeS, ↓DL.startD, List.map_cons, List.map_nil, List.length_cons, List.length_nil, List.cons_append, List.nil_append, List.replicate_succ, List.replicate_zero, List.getElem?_cons_zero, List.getElem?_cons_succ, List.set_cons_zero, List.set_cons_succ, Nat.reduceAdd, Nat.reduceSub, Nat.sub_self, ↓DL.kindD, ↓DL.dIsN, ↓DL.dNotN, ↓DL.isaB, String.reduceBEq, Bool.or_false, Bool.false_or, Bool.true_or, Bool.or_true, Bool.and_true, Bool.and_false, Bool.true_and, Bool.false_and, decide_true, decide_false, ↓DL.isNon, if_true, if_false, Bool.not_true, Bool.not_false, Bool.false_eq_true, reduceIte, true_and, and_true, ↓DL.dAddX, ↓DL.dMulX, ↓DL.dIxX, ↓DL.wSlX, ↓DL.dSlX, ↓DL.wSlL2, ↓DL.withL_rl, ↓DL.lsOf, ↓DL.wDerL, ↓DL.wFz, ↓DL.wFzR, ↓DL.frzD, ↓DL.wSide, ↓DL.wCatX, ↓DL.dEqA, ↓DL.scalEq, ↓DL.eqB, ↓DL.iLq, ↓DL.iSg, ↓DL.iEn, ↓DL.wM1, ↓DL.isStr, ↓DL.dJoin, ↓DL.dStrip, ↓DL.wSplit, ↓DL.dIntX, ↓DL.dInF, ↓DL.dInS, ↓DL.seqOf, ↓DL.wPar3, ↓DL.wFld, ↓DL.fldD, ↓DL.wSetF, ↓DL.setFD, ↓DL.wAugF, ↓DL.wMeth, ↓DL.recvD, ↓DL.wMake, ↓DL.fillP, ↓DL.wAsg2, ↓DL.gFldD, ↓DL.gStD, ↓DL.starV, ↓DL.gCs, ↓DL.gNl, ↓DL.gTp, Nat.add_zero, List.append_nil, List.zipWith_nil_left, List.zipWith_cons_cons, List.getD_cons_zero, ↓DL.wYes, reduceCtorEq, ↓DL.dEqX, ↓DL.dInD, DL.dataS_rl, DL.dataS_tup, DL.dataS_int, DL.dataS_str, DL.dataS_non, DL.dataD_nil, DL.dataD_ti, DL.dataD_li, ↓DL.isL2, ↓DL.dCountX, ↓DL.dIndexX, Option.isSome_some, ↓DL.dStrX, atI0, en]
                have e0 : decide (({ cps := #[c] } : Str) = "0") = decide (c = 48) := by
                  by_cases q : c = 48
                  · subst q; rfl
                  · rw [decide_eq_false q, decide_eq_false fun z => q ?_]
                    have := congrArg (fun s : Str => s.cps.toList) z
                    have z3 : [c] = [48] := this
                    simpa using z3
                rw [e0]
                by_cases q : c = 48
                · rw [if_pos (by simpa using q)]
                  by_cases q2 : x = "0"
                  · rw [if_neg (by simpa using q2)]
                    exact ⟨lx4 (by omega), fin _ (by rw [hn, if_neg (fun z => z.2 q2)])⟩
                  · rw [if_pos (by simpa using q2)]
                    exact fin _ (by rw [hn, if_pos ⟨q, q2⟩])
                · rw [if_neg (by simpa using q)]
                  exact ⟨lx4 (by omega), fin _ (by rw [hn, if_neg (fun z => q z.1)])⟩
          · rw [if_pos (by simpa using l4)]
            exact fin _ (by unfold numOfF; rw [if_neg (fun z => l4 (by omega))])
        · rw [if_neg (by simpa using l1)]
          exact fin _ (by unfold numOfF; rw [if_neg (fun z => l1 (by omega))])
    · exact h.elim
--CUT
theorem numOfD_cases (x : Str) : numOfD x = .non ∨ ∃ n, numOfD x = .int n := by
  unfold numOfD numOfF
  split
  · split
    · exact .inl rfl
    · split
      · exact .inr ⟨_, rfl⟩
      · exact .inl rfl
  · exact .inl rfl
/-- the number that a word writes -/
def wnum (x : Str) : Option Int := match numOfD x with | .int n => some n | _ => none
def nums : List Str → Option (List Int)
  | [] => some []
  | x :: xs => match wnum x, nums xs with | some n, some ns => some (n :: ns) | _, _ => none
def oD (o : Option Int) : D := match o with | some n => .int n | none => .non
theorem numOfD_w (x : Str) : numOfD x = oD (wnum x) := by
  unfold wnum
  rcases numOfD_cases x with h | ⟨n, h⟩ <;> rw [h] <;> rfl
theorem flat_nums : ∀ xs : List Str, ∃ vs, flatDs (xs.map numOfD) = some vs ∧ inV .non vs = (nums xs).isNone
  | [] => ⟨[], rfl, rfl⟩
  | x :: xs => by
    obtain ⟨vs, h1, h2⟩ := flat_nums xs
    rw [List.map_cons, numOfD_w]
    unfold nums
    cases e : wnum x with
    | none =>
      refine ⟨.non :: vs, by simp only [oD, flatDs, flatD, h1], ?_⟩
      unfold inV
      rfl
    | some n =>
      refine ⟨.int n :: vs, by simp only [oD, flatDs, flatD, h1], ?_⟩
      unfold inV at h2 ⊢
      rw [List.any_cons, h2]
      cases nums xs <;> rfl
theorem nums_map : ∀ {xs : List Str} {ns : List Int}, nums xs = some ns → xs.map numOfD = ns.map D.int ∧ xs.length = ns.length
  | [], ns, h => by cases h; exact ⟨rfl, rfl⟩
  | x :: xs, ns, h => by
    unfold nums at h
    split at h
    · rename_i n ms e1 e2
      cases h
      obtain ⟨h1, h2⟩ := nums_map e2
      exact ⟨by rw [List.map_cons, numOfD_w, e1, h1]; rfl, by simp [h2]⟩
    · cases h
def badRow (S : Store) (E : XE) (r : Int) : Prop := ∀ dd, S dd = none → E ⟨"BadText", some dd⟩ (sup S dd (.xdo [("row", .int r)]))
theorem badRow_dr {S : Store} {E : XE} {r : Int} (h : badRow S E r) : badRow S (DrX E) r := fun dd hd => ⟨_, Le.refl _, h dd hd⟩
theorem sc_BadText___init__ : FnScope ["self", "row"] ["self", "row"] (defScope s_BadText___init__) := ⟨rfl, rfl, rfl, by decide +kernel, rfl, by decide +kernel, by decide +kernel⟩
theorem ok_BadText (G : DefX K mg "BadText" "BadText.__init__" ["row"] s_BadText___init__) (B : InitF K mg "PortError") : ExMk P w K mg base "BadText" 1 ["row"] := by
  obtain ⟨C, fI, fd, h1, h2, h3, h4, h5, h6, h7⟩ := G.ex
  obtain ⟨b, e1, e2, e3⟩ := B.ex
  exact ⟨C, fI, fd, h1, h2, h3, h4, h5, init1 (m := "a bad row") 0 h6 sc_BadText___init__ (fun cdv A outer s H E => pss_cons (ps_expr (pe_binit rfl e1 e2 e3 (pa_cons (pe_var (i := 0) rfl (by first | exact Or.inl rfl | exact Or.inr (Or.inl rfl) | exact Or.inr (Or.inr rfl))) (pa_cons pe_str pa_nil)))) (pss_one (ps_ost (pe_var (i := 0) rfl (by first | exact Or.inl rfl | exact Or.inr (Or.inl rfl) | exact Or.inr (Or.inr rfl))) (pe_var (i := 1) rfl (by first | exact Or.inl rfl | exact Or.inr (Or.inl rfl) | exact Or.inr (Or.inr rfl)))))), h7⟩
def sp_numbers_of : SpD := fun ds S Q E => ∃ (d : D) (r : Int) (xs : List Str), ds = [d, .int r] ∧ lsOf S d = some (xs.map D.str) ∧ xs.length ≤ 1000000 ∧ (∀ x ∈ xs, x.length ≤ 1000000) ∧ (match nums xs with | some ns => Q (.rl (ns.map D.int)) S | none => badRow S E r)
theorem sc_numbers_of : FnScope ["words", "row", "found", "word"] ["words", "row"] (defScope s_numbers_of) := ⟨rfl, rfl, rfl, by decide +kernel, rfl, by decide +kernel, by decide +kernel⟩
theorem ok_numbers_of (G : Def K mg "numbers_of" s_numbers_of ["words", "row"]) (T : Txt K mg) (c_BadText : ExMk P w K mg base "BadText" 1 ["row"]) (c_number_of : Cal P w K mg base "number_of" 1 ["word"] sp_number_of) : Cal P w K mg base "numbers_of" 3 ["words", "row"] sp_numbers_of := by
  refine G.calD sc_numbers_of (fun ds S Q E h => ?_) fun f cdv A outer s H E hr => ⟨_, (dpss_cons (dps_setLcZ (i := 2) (own := [("word", 3)]) rfl sc_numbers_of.nd rfl rfl (sw_true rfl rfl rfl (by rfl)) (dpi_lq (dv 0)) (blkOk_by (own := [("word", 3)]) (by rfl)) (fun _ _ _ _ _ => (dpg_name (vs := [3]) (i := 3) sc_numbers_of.nd rfl (by first | exact Or.inl rfl | exact Or.inr rfl) (by decide))) (fun _ _ _ _ _ => dpts_nil) (fun _ _ _ _ _ => (dpe_cal c_number_of hr (by first | decide | omega) rfl takes0 (dpa_cons (dv 3) dpa_nil))))
    (dpss_cons (dps_if (dpt_cmp op_in_seq lr_inF dpe_non (dv 2) rfl) (dpss_one (dps_rzI c_BadText hr (by first | decide | omega) rfl (takes_of rfl rfl rfl rfl) rfl (dpa_cons (dv 1) dpa_nil))) dpss_nil)
    (dpss_one (dps_ret (dv 2))))), ?_⟩
  · obtain ⟨d, r, xs, rfl, _⟩ := h; rfl
  · rintro ds S Q ED ⟨d, r, xs, rfl, e1, l1, h1, h2⟩
    simp only [↓DL.wSeq, ↓DL.wSlT, ↓DL.wNo, ↓DL.wPart, ↓DL.dSlT, ↓DL.dCat, ↓DL.dListT, ↓DL.wFor, ↓DL.iR1, ↓DL.iR2, ↓DL.iTp, ↓DL.iLs, ↓DL.iNw, ↓DL.iLn, ↓DL.wNext, ↓DL.wIf, ↓DL.wRet, ↓DL.wRetN, ↓DL.wDrop, ↓DL.wAsg, ↓DL.gNm, ↓DL.wPar, ↓DL.wVar, ↓DL.wC, ↓DL.wOp, ↓DL.wUn, ↓DL.wTst, ↓DL.wChain, ↓DL.wAnd, ↓DL.wOr, ↓DL.wNot, ↓DL.wAndV, ↓DL.wOrV, ↓DL.wNotV, ↓DL.wIfE, ↓DL.wNil, ↓DL.wCons, ↓DL.wTup, ↓DL.wLst, ↓DL.wNew, ↓DL.wDer, ↓DL.wVL, ↓DL.wVLL, ↓DL.wALL, ↓DL.wCall, ↓DL.wIsa, ↓DL.wRaise, ↓DL.isB, ↓DL.dI0, ↓DL.dI, ↓DL.dU, ↓DL.dLen, ↓DL.dIx, ↓DL.gSubD, ↓DL.setD, ↓DL.wBM, ↓DL.isL, ↓DL.onL, ↓DL.dPopAt, ↓DL.dAppend, ↓DL.wIxV, ↓DL.wEqVL, ↓DL.wEqL, ↓DL.dEqS, ↓DL.dNeS, ↓DL.startD, List.map_cons, List.map_nil, List.length_cons, List.length_nil, List.cons_append, List.nil_append, List.replicate_succ, List.replicate_zero, List.getElem?_cons_zero, List.getElem?_cons_succ, List.set_cons_zero, List.set_cons_succ, Nat.reduceAdd, Nat.reduceSub, Nat.sub_self, ↓DL.kindD, ↓DL.dIsN, ↓DL.dNotN, ↓DL.isaB, String.reduceBEq, Bool.or_false, Bool.false_or, Bool.true_or, Bool.or_true, Bool.and_true, Bool.and_false, Bool.true_and, Bool.false_and, decide_true, decide_false, ↓DL.isNon, if_true, if_false, Bool.not_true, Bool.not_false, Bool.false_eq_true, reduceIte, true_and, and_true, ↓DL.dAddX, ↓DL.dMulX, ↓DL.dIxX, ↓DL.wSlX, ↓DL.dSlX, ↓DL.wSlL2, ↓DL.withL_rl, ↓DL.lsOf, ↓DL.wDerL, ↓DL.wFz, ↓DL.wFzR, ↓DL.frzD, ↓DL.wSide, ↓DL.wCatX, ↓DL.dEqA, ↓DL.scalEq, ↓DL.eqB, ↓DL.iLq, ↓DL.iSg, ↓DL.iEn, ↓DL.wM1, ↓DL.isStr, ↓DL.dJoin, ↓DL.dStrip, ↓DL.wSplit, ↓DL.dIntX, ↓DL.dInF, ↓DL.dInS, ↓DL.seqOf, ↓DL.wPar3, ↓DL.wFld, ↓DL.fldD, ↓DL.wSetF, ↓DL.setFD, ↓DL.wAugF, ↓DL.wMeth, ↓DL.recvD, ↓DL.wMake, ↓DL.fillP, ↓DL.wAsg2, ↓DL.gFldD, ↓DL.gStD, ↓DL.starV, ↓DL.gCs, ↓DL.gNl, ↓DL.gTp, Nat.add_zero, List.append_nil, List.zipWith_nil_left, List.zipWith_cons_cons, List.getD_cons_zero, ↓DL.wYes, reduceCtorEq, ↓DL.dEqX, ↓DL.dInD, DL.dataS_rl, DL.dataS_tup, DL.dataS_int, DL.dataS_str, DL.dataS_non, DL.dataD_nil, DL.dataD_ti, DL.dataD_li, ↓DL.isL2, ↓DL.dCountX, ↓DL.dIndexX, Option.isSome_some, ↓DL.dStrX, ↓wLc]
    refine withL_of e1 ?_
    refine lcW_map (fun d => match d with | .str x => numOfD x | _ => .non) e1 (by simp; rw [sizeLine_eq]; omega) (fun d hd Kt Z k => ?_) ?_
    · obtain ⟨x, hx, rfl⟩ := List.mem_map.mp hd
      simp only [↓DL.wSeq, ↓DL.wSlT, ↓DL.wNo, ↓DL.wPart, ↓DL.dSlT, ↓DL.dCat, ↓DL.dListT, ↓DL.wFor, ↓DL.iR1, ↓DL.iR2, ↓DL.iTp, ↓DL.iLs, ↓DL.iNw, ↓DL.iLn, ↓DL.wNext, ↓DL.wIf, ↓DL.wRet, ↓DL.wRetN, ↓DL.wDrop, ↓DL.wAsg, ↓DL.gNm, ↓DL.wPar, ↓DL.wVar, ↓DL.wC, ↓DL.wOp, ↓DL.wUn, ↓DL.wTst, ↓DL.wChain, ↓DL.wAnd, ↓DL.wOr, ↓DL.wNot, ↓DL.wAndV, ↓DL.wOrV, ↓DL.wNotV, ↓DL.wIfE, ↓DL.wNil, ↓DL.wCons, ↓DL.wTup, ↓DL.wLst, ↓DL.wNew, ↓DL.wDer, ↓DL.wVL, ↓DL.wVLL, ↓DL.wALL, ↓DL.wCall, ↓DL.wIsa, ↓DL.wRaise, ↓DL.isB, ↓DL.dI0, ↓DL.dI, ↓DL.dU, ↓DL.dLen, ↓DL.dIx, ↓DL.gSubD, ↓DL.setD, ↓DL.wBM, ↓DL.isL, ↓DL.onL, ↓DL.dPopAt, ↓DL.dAppend, ↓DL.wIxV, ↓DL.wEqVL, ↓DL.wEqL, ↓DL.dEqS, ↓DL.dNeS, ↓DL.startD, List.map_cons, List.map_nil, List.length_cons, List.length_nil, List.cons_append, List.nil_append, List.replicate_succ, List.replicate_zero, List.getElem?_cons_zero, List.getElem?_cons_succ, List.set_cons_zero, List.set_cons_succ, Nat.reduceAdd, Nat.reduceSub, Nat.sub_self, ↓DL.kindD, ↓DL.dIsN, ↓DL.dNotN, ↓DL.isaB, String.reduceBEq, Bool.or_false, Bool.false_or, Bool.true_or, Bool.or_true, Bool.and_true, Bool.and_false, Bool.true_and, Bool.false_and, decide_true, decide_false, ↓DL.isNon, if_true, if_false, Bool.not_true, Bool.not_false, Bool.false_eq_true, reduceIte, true_and, and_true, ↓DL.dAddX, ↓DL.dMulX, ↓DL.dIxX, ↓DL.wSlX, ↓DL.dSlX, ↓DL.wSlL2, ↓DL.withL_rl, ↓DL.lsOf, ↓DL.wDerL, ↓DL.wFz, ↓DL.wFzR, ↓DL.frzD, ↓DL.wSide, ↓DL.wCatX, ↓DL.dEqA, ↓DL.scalEq, ↓DL.eqB, ↓DL.iLq, ↓DL.iSg, ↓DL.iEn, ↓DL.wM1, ↓DL.isStr, ↓DL.dJoin, ↓DL.dStrip, ↓DL.wSplit, ↓DL.dIntX, ↓DL.dInF, ↓DL.dInS, ↓DL.seqOf, ↓DL.wPar3, ↓DL.wFld, ↓DL.fldD, ↓DL.wSetF, ↓DL.setFD, ↓DL.wAugF, ↓DL.wMeth, ↓DL.recvD, ↓DL.wMake, ↓DL.fillP, ↓DL.wAsg2, ↓DL.gFldD, ↓DL.gStD, ↓DL.starV, ↓DL.gCs, ↓DL.gNl, ↓DL.gTp, Nat.add_zero, List.append_nil, List.zipWith_nil_left, List.zipWith_cons_cons, List.getD_cons_zero, ↓DL.wYes, reduceCtorEq, ↓DL.dEqX, ↓DL.dInD, DL.dataS_rl, DL.dataS_tup, DL.dataS_int, DL.dataS_str, DL.dataS_non, DL.dataD_nil, DL.dataD_ti, DL.dataD_li, ↓DL.isL2, ↓DL.dCountX, ↓DL.dIndexX, Option.isSome_some, ↓DL.dStrX, wipeD, sp_number_of]
      exact ⟨h1 x hx, k⟩
    · have em : List.map (fun d => match d with | .str x => numOfD x | _ => D.non) (xs.map D.str) = xs.map numOfD := by
        rw [List.map_map]
        rfl
      obtain ⟨vs, f1, f2⟩ := flat_nums xs
      rw [List.nil_append, em]
      simp only [↓DL.wSeq, ↓DL.wSlT, ↓DL.wNo, ↓DL.wPart, ↓DL.dSlT, ↓DL.dCat, ↓DL.dListT, ↓DL.wFor, ↓DL.iR1, ↓DL.iR2, ↓DL.iTp, ↓DL.iLs, ↓DL.iNw, ↓DL.iLn, ↓DL.wNext, ↓DL.wIf, ↓DL.wRet, ↓DL.wRetN, ↓DL.wDrop, ↓DL.wAsg, ↓DL.gNm, ↓DL.wPar, ↓DL.wVar, ↓DL.wC, ↓DL.wOp, ↓DL.wUn, ↓DL.wTst, ↓DL.wChain, ↓DL.wAnd, ↓DL.wOr, ↓DL.wNot, ↓DL.wAndV, ↓DL.wOrV, ↓DL.wNotV, ↓DL.wIfE, ↓DL.wNil, ↓DL.wCons, ↓DL.wTup, ↓DL.wLst, ↓DL.wNew, ↓DL.wDer, ↓DL.wVL, ↓DL.wVLL, ↓DL.wALL, ↓DL.wCall, ↓DL.wIsa, ↓DL.wRaise, ↓DL.isB, ↓DL.dI0, ↓DL.dI, ↓DL.dU, ↓DL.dLen, ↓DL.dIx, ↓DL.gSubD, ↓DL.setD, ↓DL.wBM, ↓DL.isL, ↓DL.onL, ↓DL.dPopAt, ↓DL.dAppend, ↓DL.wIxV, ↓DL.wEqVL, ↓DL.wEqL, ↓DL.dEqS, ↓DL.dNeS, ↓DL.startD, List.map_cons, List.map_nil, List.length_cons, List.length_nil, List.cons_append, List.nil_append, List.replicate_succ, List.replicate_zero, List.getElem?_cons_zero, List.getElem?_cons_succ, List.set_cons_zero, List.set_cons_succ, Nat.reduceAdd, Nat.reduceSub, Nat.sub_self, ↓DL.kindD, ↓DL.dIsN, ↓DL.dNotN, ↓DL.isaB, String.reduceBEq, Bool.or_false, Bool.false_or, Bool.true_or, Bool.or_true, Bool.and_true, Bool.and_false, Bool.true_and, Bool.false_and, decide_true, decide_false, ↓DL.isNon, if_true, if_false, Bool.not_true, Bool.not_false, Bool.false_eq_true, reduceIte, true_and, and_true, ↓DL.dAddX, ↓DL.dMulX, ↓DL.dIxX, ↓DL.wSlX, ↓DL.dSlX, ↓DL.wSlL2, ↓DL.withL_rl, ↓DL.lsOf, ↓DL.wDerL, ↓DL.wFz, ↓DL.wFzR, ↓DL.frzD, ↓DL.wSide, ↓DL.wCatX, ↓DL.dEqA, ↓DL.scalEq, ↓DL.eqB, ↓DL.iLq, ↓DL.iSg, ↓DL.iEn, ↓DL.wM1, ↓DL.isStr, ↓DL.dJoin, ↓DL.dStrip, ↓DL.wSplit, ↓DL.dIntX, ↓DL.dInF, ↓DL.dInS, ↓DL.seqOf, ↓DL.wPar3, ↓DL.wFld, ↓DL.fldD, ↓DL.wSetF, ↓DL.setFD, ↓DL.wAugF, ↓DL.wMeth, ↓DL.recvD, ↓DL.wMake, ↓DL.fillP, ↓DL.wAsg2, ↓DL.gFldD, ↓DL.gStD, ↓DL.starV, ↓DL.gCs, ↓DL.gNl, ↓DL.gTp, Nat.add_zero, List.append_nil, List.zipWith_nil_left, List.zipWith_cons_cons, List.getD_cons_zero, ↓DL.wYes, reduceCtorEq, ↓DL.dEqX, ↓DL.dInD, DL.dataS_rl, DL.dataS_tup, DL.dataS_int, DL.dataS_str, DL.dataS_non, DL.dataD_nil, DL.dataD_ti, DL.dataD_li, ↓DL.isL2, ↓DL.dCountX, ↓DL.dIndexX, Option.isSome_some, ↓DL.dStrX, flatD, f1, f2]
      cases e : nums xs with
      | some ns =>
        rw [e] at h2
        simp only [↓DL.wSeq, ↓DL.wSlT, ↓DL.wNo, ↓DL.wPart, ↓DL.dSlT, ↓DL.dCat, ↓DL.dListT, ↓DL.wFor, ↓DL.iR1, ↓DL.iR2, ↓DL.iTp, ↓DL.iLs, ↓DL.iNw, ↓DL.iLn, ↓DL.wNext, ↓DL.wIf, ↓DL.wRet, ↓DL.wRetN, ↓DL.wDrop, ↓DL.wAsg, ↓DL.gNm, ↓DL.wPar, ↓DL.wVar, ↓DL.wC, ↓DL.wOp, ↓DL.wUn, ↓DL.wTst, ↓DL.wChain, ↓DL.wAnd, ↓DL.wOr, ↓DL.wNot, ↓DL.wAndV, ↓DL.wOrV, ↓DL.wNotV, ↓DL.wIfE, ↓DL.wNil, ↓DL.wCons, ↓DL.wTup, ↓DL.wLst, ↓DL.wNew, ↓DL.wDer, ↓DL.wVL, ↓DL.wVLL, ↓DL.wALL, ↓DL.wCall, ↓DL.wIsa, ↓DL.wRaise, ↓DL.isB, ↓DL.dI0, ↓DL.dI, ↓DL.dU, ↓DL.dLen, ↓DL.dIx, ↓DL.gSubD, ↓DL.setD, ↓DL.wBM, ↓DL.isL, ↓DL.onL, ↓DL.dPopAt, ↓DL.dAppend, ↓DL.wIxV, ↓DL.wEqVL, ↓DL.wEqL, ↓DL.dEqS, ↓DL.dNeS, ↓DL.startD, List.map_cons, List.map_nil, List.length_cons, List.length_nil, List.cons_append, List.nil_append, List.replicate_succ, List.replicate_zero, List.getElem?_cons_zero, List.getElem?_cons_succ, List.set_cons_zero, List.set_cons_succ, Nat.reduceAdd, Nat.reduceSub, Nat.sub_self, ↓DL.kindD, ↓DL.dIsN, ↓DL.dNotN, ↓DL.isaB, String.reduceBEq, Bool.or_false, Bool.false_or, Bool.true_or, Bool.or_true, Bool.and_true, Bool.and_false, Bool.true_and, Bool.false_and, decide_true, decide_false, ↓DL.isNon, if_true, if_false, Bool.not_true, Bool.not_false, Bool.false_eq_true, reduceIte, true_and, and_true, ↓DL.dAddX, ↓DL.dMulX, ↓DL.dIxX, ↓DL.wSlX, ↓DL.dSlX, ↓DL.wSlL2, ↓DL.withL_rl, ↓DL.lsOf, ↓DL.wDerL, ↓DL.wFz, ↓DL.wFzR, ↓DL.frzD, ↓DL.wSide, ↓DL.wCatX, ↓DL.dEqA, ↓DL.scalEq, ↓DL.eqB, ↓DL.iLq, ↓DL.iSg, ↓DL.iEn, ↓DL.wM1, ↓DL.isStr, ↓DL.dJoin, ↓DL.dStrip, ↓DL.wSplit, ↓DL.dIntX, ↓DL.dInF, ↓DL.dInS, ↓DL.seqOf, ↓DL.wPar3, ↓DL.wFld, ↓DL.fldD, ↓DL.wSetF, ↓DL.setFD, ↓DL.wAugF, ↓DL.wMeth, ↓DL.recvD, ↓DL.wMake, ↓DL.fillP, ↓DL.wAsg2, ↓DL.gFldD, ↓DL.gStD, ↓DL.starV, ↓DL.gCs, ↓DL.gNl, ↓DL.gTp, Nat.add_zero, List.append_nil, List.zipWith_nil_left, List.zipWith_cons_cons, List.getD_cons_zero, ↓DL.wYes, reduceCtorEq, ↓DL.dEqX, ↓DL.dInD, DL.dataS_rl, DL.dataS_tup, DL.dataS_int, DL.dataS_str, DL.dataS_non, DL.dataD_nil, DL.dataD_ti, DL.dataD_li, ↓DL.isL2, ↓DL.dCountX, ↓DL.dIndexX, Option.isSome_some, ↓DL.dStrX, Option.isNone_some]
        rw [(nums_map e).1]
        exact ⟨S, Le.refl _, h2⟩
      | none =>
        rw [e] at h2
        simp only [↓DL.wSeq, ↓DL.wSlT, ↓DL.wNo, ↓DL.wPart, ↓DL.dSlT, ↓DL.dCat, ↓DL.dListT, ↓DL.wFor, ↓DL.iR1, ↓DL.iR2, ↓DL.iTp, ↓DL.iLs, ↓DL.iNw, ↓DL.iLn, ↓DL.wNext, ↓DL.wIf, ↓DL.wRet, ↓DL.wRetN, ↓DL.wDrop, ↓DL.wAsg, ↓DL.gNm, ↓DL.wPar, ↓DL.wVar, ↓DL.wC, ↓DL.wOp, ↓DL.wUn, ↓DL.wTst, ↓DL.wChain, ↓DL.wAnd, ↓DL.wOr, ↓DL.wNot, ↓DL.wAndV, ↓DL.wOrV, ↓DL.wNotV, ↓DL.wIfE, ↓DL.wNil, ↓DL.wCons, ↓DL.wTup, ↓DL.wLst, ↓DL.wNew, ↓DL.wDer, ↓DL.wVL, ↓DL.wVLL, ↓DL.wALL, ↓DL.wCall, ↓DL.wIsa, ↓DL.wRaise, ↓DL.isB, ↓DL.dI0, ↓DL.dI, ↓DL.dU, ↓DL.dLen, ↓DL.dIx, ↓DL.gSubD, ↓DL.setD, ↓DL.wBM, ↓DL.isL, ↓DL.onL, ↓DL.dPopAt, ↓DL.dAppend, ↓DL.wIxV, ↓DL.wEqVL, ↓DL.wEqL, ↓DL.dEqS, ↓DL.dNeS, ↓DL.startD, List.map_cons, List.map_nil, List.length_cons, List.length_nil, List.cons_append, List.nil_append, List.replicate_succ, List.replicate_zero, List.getElem?_cons_zero, List.getElem?_cons_succ, List.set_cons_zero, List.set_cons_succ, Nat.reduceAdd, Nat.reduceSub, Nat.sub_self, ↓DL.kindD, ↓DL.dIsN, ↓DL.dNotN, ↓DL.isaB, String.reduceBEq, Bool.or_false, Bool.false_or, Bool.true_or, Bool.or_true, Bool.and_true, Bool.and_false, Bool.true_and, Bool.false_and, decide_true, decide_false, ↓DL.isNon, if_true, if_false, Bool.not_true, Bool.not_false, Bool.false_eq_true, reduceIte, true_and, and_true, ↓DL.dAddX, ↓DL.dMulX, ↓DL.dIxX, ↓DL.wSlX, ↓DL.dSlX, ↓DL.wSlL2, ↓DL.withL_rl, ↓DL.lsOf, ↓DL.wDerL, ↓DL.wFz, ↓DL.wFzR, ↓DL.frzD, ↓DL.wSide, ↓DL.wCatX, ↓DL.dEqA, ↓DL.scalEq, ↓DL.eqB, ↓DL.iLq, ↓DL.iSg, ↓DL.iEn, ↓DL.wM1, ↓DL.isStr, ↓DL.dJoin, ↓DL.dStrip, ↓DL.wSplit, ↓DL.dIntX, ↓DL.dInF, ↓DL.dInS, ↓DL.seqOf, ↓DL.wPar3, ↓DL.wFld, ↓DL.fldD, ↓DL.wSetF, ↓DL.setFD, ↓DL.wAugF, ↓DL.wMeth, ↓DL.recvD, ↓DL.wMake, ↓DL.fillP, ↓DL.wAsg2, ↓DL.gFldD, ↓DL.gStD, ↓DL.starV, ↓DL.gCs, ↓DL.gNl, ↓DL.gTp, Nat.add_zero, List.append_nil, List.zipWith_nil_left, List.zipWith_cons_cons, List.getD_cons_zero, ↓DL.wYes, reduceCtorEq, ↓DL.dEqX, ↓DL.dInD, DL.dataS_rl, DL.dataS_tup, DL.dataS_int, DL.dataS_str, DL.dataS_non, DL.dataD_nil, DL.dataD_ti, DL.dataD_li, ↓DL.isL2, ↓DL.dCountX, ↓DL.dIndexX, Option.isSome_some, ↓DL.dStrX, Option.isNone_none, wRzI]
        exact badRow_dr h2
--CUT
/-! ### splitting -/
theorem spl1 (s : Nat) : ∀ (l acc : List Nat), ((TL.spl [s] 0 acc l).map fun p => p.length + 1).sum = acc.length + l.length + 1
  | [], acc => by rw [TL.spl_nil]; simp
  | c :: r, acc => by
    cases h : TL.pre [s] (c :: r) with
    | true =>
      rw [TL.spl_hit h]
      have := spl1 s r []
      simp only [List.map_cons, List.sum_cons, List.length_cons, List.length_nil] at this ⊢
      simp only [Nat.sub_self, Nat.zero_add] at this ⊢
      omega
    | false =>
      rw [TL.spl_miss h, spl1 s r]
      simp only [List.length_append, List.length_cons, List.length_nil]
      omega
structure Sep (y : Str) : Prop where
  one : ∃ s, TL.tl y = [s]
  low : y.cps.all (· < 256) = true
theorem sepB : Sep " " := ⟨⟨32, rfl⟩, by decide +kernel⟩
theorem sepN : Sep "\n" := ⟨⟨10, rfl⟩, by decide +kernel⟩
theorem split_sum (x : Str) {y : Str} (h : Sep y) : ((Txt.split x y).map fun p => p.length + 1).sum = x.length + 1 := by
  obtain ⟨s, e⟩ := h.one
  have k := TL.split_spl x y (by rw [e]; simp) (TL.kind_ok h.low)
  rw [e] at k
  have z := spl1 s (TL.tl x) []
  rw [← k, List.map_map] at z
  have e1 : (fun p : List Nat => p.length + 1) ∘ TL.tl = fun p : Str => p.length + 1 := by
    funext p
    simp only [Function.comp, TL.len_tl]
  rw [e1] at z
  rw [z, TL.len_tl x]
  simp
theorem sum_ge : ∀ {xs : List Str} {x : Str}, x ∈ xs → x.length + 1 ≤ (xs.map fun p => p.length + 1).sum
  | y :: ys, x, h => by
    rw [List.map_cons, List.sum_cons]
    rcases List.mem_cons.mp h with rfl | h
    · omega
    · have := sum_ge h
      omega
theorem len_sum : ∀ xs : List Str, xs.length ≤ (xs.map fun p => p.length + 1).sum
  | [] => Nat.zero_le _
  | x :: xs => by
    have := len_sum xs
    rw [List.map_cons, List.sum_cons, List.length_cons]
    omega
theorem split_mem {x y p : Str} (h : Sep y) (hp : p ∈ Txt.split x y) : p.length ≤ x.length := by
  have := sum_ge hp
  rw [split_sum x h] at this
  omega
theorem split_len (x : Str) {y : Str} (h : Sep y) : (Txt.split x y).length ≤ x.length + 1 := by
  have := len_sum (Txt.split x y)
  rwa [split_sum x h] at this
theorem split_ne (x : Str) {y : Str} (h : Sep y) : Txt.split x y ≠ [] := fun z => by
  have := split_sum x h
  rw [z] at this
  simp at this
/-! ### what texts write -/
def tokOk (ns : List Int) : Bool := decide (2 ≤ ns.length ∧ ns.length ≤ 5) && ns.all fun n => decide (0 ≤ n) && decide (n ≤ 999)
theorem tokOk_d (ns : List Int) : isTokD (.tup (ns.map D.int)) (sizedD (.tup (ns.map D.int))) = tokOk ns := by
  unfold isTokD sizedD tokOk
  simp only [List.length_map, List.all_map]
  congr 1
  · rw [decide_eq_decide]
    repeat split
    all_goals omega
def rdTok (x : Str) : List Int ⊕ Bool := match nums (Txt.split x " ") with | none => .inr true | some ns => if tokOk ns = true then .inl ns else .inr false
def sp_read : SpD := fun ds S Q E => ∃ x : Str, ds = [.str x] ∧ x.length ≤ 100000 ∧ (match rdTok x with | .inl ns => Q (.tup (ns.map D.int)) S | .inr true => badRow S E 0 | .inr false => E ⟨"BadToken", none⟩ S)
theorem sc_read : FnScope ["text", "found"] ["text"] (defScope s_read) := ⟨rfl, rfl, rfl, by decide +kernel, rfl, by decide +kernel, by decide +kernel⟩
theorem ok_read (G : Def K mg "read" s_read ["text"]) (T : Txt K mg) (c_need_token : Cal P w K mg base "need_token" 3 ["token", "many"] sp_need_token) (c_sized : Cal P w K mg base "sized" 1 ["token"] sp_sized) (c_numbers_of : Cal P w K mg base "numbers_of" 3 ["words", "row"] sp_numbers_of) : Cal P w K mg base "read" 4 ["text"] sp_read := by
  refine G.calD sc_read (fun ds S Q E h => ?_) fun f cdv A outer s H E hr => ⟨_, (dpss_cons (dps_set (i := 1) sc_read.nd rfl (by first | exact Or.inl rfl | exact Or.inr rfl) (dpe_tv call_tuple_of lc_tup rfl T.b_tuple bb_tuple (dpv_ls (dpe_cal c_numbers_of hr (by first | decide | omega) rfl (takes_of rfl rfl rfl rfl) (dpa_cons (dpe_fz (dpl_split (dv 0) dpe_str)) (dpa_cons dpe_int dpa_nil))))))
    (dpss_cons (dps_expr (dpe_cal c_need_token hr (by first | decide | omega) rfl (takes_of rfl rfl rfl rfl) (dpa_cons (dv 1) (dpa_cons (dpe_cal c_sized hr (by first | decide | omega) rfl (takes_of rfl rfl rfl rfl) (dpa_cons (dv 1) dpa_nil)) dpa_nil))))
    (dpss_one (dps_ret (dv 1))))), ?_⟩
  · obtain ⟨x, rfl, _⟩ := h; rfl
  · rintro ds S Q ED ⟨x, rfl, l1, h2⟩
    unfold rdTok at h2
    simp only [↓DL.wSeq, ↓DL.wSlT, ↓DL.wNo, ↓DL.wPart, ↓DL.dSlT, ↓DL.dCat, ↓DL.dListT, ↓DL.wFor, ↓DL.iR1, ↓DL.iR2, ↓DL.iTp, ↓DL.iLs, ↓DL.iNw, ↓DL.iLn, ↓DL.wNext, ↓DL.wIf, ↓DL.wRet, ↓DL.wRetN, ↓DL.wDrop, ↓DL.wAsg, ↓DL.gNm, ↓DL.wPar, ↓DL.wVar, ↓DL.wC, ↓DL.wOp, ↓DL.wUn, ↓DL.wTst, ↓DL.wChain, ↓DL.wAnd, ↓DL.wOr, ↓DL.wNot, ↓DL.wAndV, ↓DL.wOrV, ↓DL.wNotV, ↓DL.wIfE, ↓DL.wNil, ↓DL.wCons, ↓DL.wTup, ↓DL.wLst, ↓DL.wNew, ↓DL.wDer, ↓DL.wVL, ↓DL.wVLL, ↓DL.wALL, ↓DL.wCall, ↓DL.wIsa, ↓DL.wRaise, ↓DL.isB, ↓DL.dI0, ↓DL.dI, ↓DL.dU, ↓DL.dLen, ↓DL.dIx, ↓DL.gSubD, ↓DL.setD, ↓DL.wBM, ↓DL.isL, ↓DL.onL, ↓DL.dPopAt, ↓DL.dAppend, ↓DL.wIxV, ↓DL.wEqVL, ↓DL.wEqL, ↓DL.dEqS, ↓DL.dNeS, ↓DL.startD, List.map_cons, List.map_nil, List.length_cons, List.length_nil, List.cons_append, List.nil_append, List.replicate_succ, List.replicate_zero, List.getElem?_cons_zero, List.getElem?_cons_succ, List.set_cons_zero, List.set_cons_succ, Nat.reduceAdd, Nat.reduceSub, Nat.sub_self, ↓DL.kindD, ↓DL.dIsN, ↓DL.dNotN, ↓DL.isaB, String.reduceBEq, Bool.or_false, Bool.false_or, Bool.true_or, Bool.or_true, Bool.and_true, Bool.and_false, Bool.true_and, Bool.false_and, decide_true, decide_false, ↓DL.isNon, if_true, if_false, Bool.not_true, Bool.not_false, Bool.false_eq_true, reduceIte, true_and, and_true, ↓DL.dAddX, ↓DL.dMulX, ↓DL.dIxX, ↓DL.wSlX, ↓DL.dSlX, ↓DL.wSlL2, ↓DL.withL_rl, ↓DL.lsOf, ↓DL.wDerL, ↓DL.wFz, ↓DL.wFzR, ↓DL.frzD, ↓DL.wSide, ↓DL.wCatX, ↓DL.dEqA, ↓DL.scalEq, ↓DL.eqB, ↓DL.iLq, ↓DL.iSg, ↓DL.iEn, ↓DL.wM1, ↓DL.isStr, ↓DL.dJoin, ↓DL.dStrip, ↓DL.wSplit, ↓DL.dIntX, ↓DL.dInF, ↓DL.dInS, ↓DL.seqOf, ↓DL.wPar3, ↓DL.wFld, ↓DL.fldD, ↓DL.wSetF, ↓DL.setFD, ↓DL.wAugF, ↓DL.wMeth, ↓DL.recvD, ↓DL.wMake, ↓DL.fillP, ↓DL.wAsg2, ↓DL.gFldD, ↓DL.gStD, ↓DL.starV, ↓DL.gCs, ↓DL.gNl, ↓DL.gTp, Nat.add_zero, List.append_nil, List.zipWith_nil_left, List.zipWith_cons_cons, List.getD_cons_zero, ↓DL.wYes, reduceCtorEq, ↓DL.dEqX, ↓DL.dInD, DL.dataS_rl, DL.dataS_tup, DL.dataS_int, DL.dataS_str, DL.dataS_non, DL.dataD_nil, DL.dataD_ti, DL.dataD_li, ↓DL.isL2, ↓DL.dCountX, ↓DL.dIndexX, Option.isSome_some, ↓DL.dStrX, sp_numbers_of, sp_sized, sp_need_token]
    have sl := split_len x sepB
    refine ⟨⟨by decide, by rw [sizeLine_eq]; omega⟩, _, 0, Txt.split x " ", rfl, rfl, by omega, fun p hp => by have := split_mem sepB hp; omega, ?_⟩
    cases e : nums (Txt.split x " ") with
    | none =>
      rw [e] at h2
      exact badRow_dr h2
    | some ns =>
      rw [e] at h2
      have hl := (nums_map e).2
      simp only [↓DL.wSeq, ↓DL.wSlT, ↓DL.wNo, ↓DL.wPart, ↓DL.dSlT, ↓DL.dCat, ↓DL.dListT, ↓DL.wFor, ↓DL.iR1, ↓DL.iR2, ↓DL.iTp, ↓DL.iLs, ↓DL.iNw, ↓DL.iLn, ↓DL.wNext, ↓DL.wIf, ↓DL.wRet, ↓DL.wRetN, ↓DL.wDrop, ↓DL.wAsg, ↓DL.gNm, ↓DL.wPar, ↓DL.wVar, ↓DL.wC, ↓DL.wOp, ↓DL.wUn, ↓DL.wTst, ↓DL.wChain, ↓DL.wAnd, ↓DL.wOr, ↓DL.wNot, ↓DL.wAndV, ↓DL.wOrV, ↓DL.wNotV, ↓DL.wIfE, ↓DL.wNil, ↓DL.wCons, ↓DL.wTup, ↓DL.wLst, ↓DL.wNew, ↓DL.wDer, ↓DL.wVL, ↓DL.wVLL, ↓DL.wALL, ↓DL.wCall, ↓DL.wIsa, ↓DL.wRaise, ↓DL.isB, ↓DL.dI0, ↓DL.dI, ↓DL.dU, ↓DL.dLen, ↓DL.dIx, ↓DL.gSubD, ↓DL.setD, ↓DL.wBM, ↓DL.isL, ↓DL.onL, ↓DL.dPopAt, ↓DL.dAppend, ↓DL.wIxV, ↓DL.wEqVL, ↓DL.wEqL, ↓DL.dEqS, ↓DL.dNeS, ↓DL.startD, List.map_cons, List.map_nil, List.length_cons, List.length_nil, List.cons_append, List.nil_append, List.replicate_succ, List.replicate_zero, List.getElem?_cons_zero, List.getElem?_cons_succ, List.set_cons_zero, List.set_cons_succ, Nat.reduceAdd, Nat.reduceSub, Nat.sub_self, ↓DL.kindD, ↓DL.dIsN, ↓DL.dNotN, ↓DL.isaB, String.reduceBEq, Bool.or_false, Bool.false_or, Bool.true_or, Bool.or_true, Bool.and_true, Bool.and_false, Bool.true_and, Bool.false_and, decide_true, decide_false, ↓DL.isNon, if_true, if_false, Bool.not_true, Bool.not_false, Bool.false_eq_true, reduceIte, true_and, and_true, ↓DL.dAddX, ↓DL.dMulX, ↓DL.dIxX, ↓DL.wSlX, ↓DL.dSlX, ↓DL.wSlL2, ↓DL.withL_rl, ↓DL.lsOf, ↓DL.wDerL, ↓DL.wFz, ↓DL.wFzR, ↓DL.frzD, ↓DL.wSide, ↓DL.wCatX, ↓DL.dEqA, ↓DL.scalEq, ↓DL.eqB, ↓DL.iLq, ↓DL.iSg, ↓DL.iEn, ↓DL.wM1, ↓DL.isStr, ↓DL.dJoin, ↓DL.dStrip, ↓DL.wSplit, ↓DL.dIntX, ↓DL.dInF, ↓DL.dInS, ↓DL.seqOf, ↓DL.wPar3, ↓DL.wFld, ↓DL.fldD, ↓DL.wSetF, ↓DL.setFD, ↓DL.wAugF, ↓DL.wMeth, ↓DL.recvD, ↓DL.wMake, ↓DL.fillP, ↓DL.wAsg2, ↓DL.gFldD, ↓DL.gStD, ↓DL.starV, ↓DL.gCs, ↓DL.gNl, ↓DL.gTp, Nat.add_zero, List.append_nil, List.zipWith_nil_left, List.zipWith_cons_cons, List.getD_cons_zero, ↓DL.wYes, reduceCtorEq, ↓DL.dEqX, ↓DL.dInD, DL.dataS_rl, DL.dataS_tup, DL.dataS_int, DL.dataS_str, DL.dataS_non, DL.dataD_nil, DL.dataD_ti, DL.dataD_li, ↓DL.isL2, ↓DL.dCountX, ↓DL.dIndexX, Option.isSome_some, ↓DL.dStrX, dTupOf]
      have ko : kOks S (.tup (ns.map D.int)) := ⟨by simp [kOk, kindD], fun xs ex => by
        cases ex
        refine ⟨by rw [List.length_map, sizeLine_eq]; omega, fun d hd => ?_⟩
        obtain ⟨n, _, rfl⟩ := List.mem_map.mp hd
        simp [kOk, kindD]⟩
      refine ⟨ko, ko, ?_⟩
      rw [tokOk_d]
      dsimp only at h2
      cases g : tokOk ns with
      | true => rw [g] at h2; exact ⟨S, Le.refl _, h2⟩
      | false => rw [g] at h2; exact ⟨S, Le.refl _, h2⟩
structure PutR where
  site : Int
  num : Int
  past : List Int
  turn : Int
  key : Int
  worth : Int
def PutR.d (p : PutR) : D := .tup [.int p.site, .int p.num, .tup (p.past.map D.int), .int p.turn, .int p.key, .int p.worth]
def PutR.nums (p : PutR) : List Int := p.site :: p.num :: (p.past ++ [p.turn, p.key, p.worth])
theorem star21 (x : D) (xs : List D) : starV 2 1 (x :: xs) = ([x], xs, []) := by
  unfold starV
  simp
theorem star62 (p : PutR) : starV 6 2 (p.nums.map D.int) = ([.int p.site, .int p.num], p.past.map D.int, [.int p.turn, .int p.key, .int p.worth]) := by
  unfold starV PutR.nums
  simp
def putR (ns : List Int) : PutR := ⟨ns.getD 0 0, ns.getD 1 0, (ns.drop 2).take (ns.length - 5), ns.getD (ns.length - 3) 0, ns.getD (ns.length - 2) 0, ns.getD (ns.length - 1) 0⟩
theorem putR_nums {ns : List Int} (h : 5 ≤ ns.length) : (putR ns).nums = ns := by
  match ns, h with
  | a :: b :: r, h =>
    have hr : 3 ≤ r.length := by simp only [List.length_cons] at h; omega
    obtain ⟨m, t, k, w, rfl⟩ : ∃ (m : List Int) (t k w : Int), r = m ++ [t, k, w] := by
      refine ⟨r.take (r.length - 3), r[r.length - 3], r[r.length - 2], r[r.length - 1], ?_⟩
      have e1 : r.drop (r.length - 3) = [r[r.length - 3], r[r.length - 2], r[r.length - 1]] := by
        rw [List.drop_eq_getElem_cons (by omega), List.drop_eq_getElem_cons (by omega), List.drop_eq_getElem_cons (by omega), List.drop_eq_nil_of_le (by omega)]
        simp only [show r.length - 3 + 1 = r.length - 2 by omega, show r.length - 2 + 1 = r.length - 1 by omega]
      rw [← e1, List.take_append_drop]
    have l5 : (a :: b :: (m ++ [t, k, w])).length = m.length + 5 := by simp
    unfold putR PutR.nums
    rw [l5]
    simp
theorem putR_past {ns : List Int} (h : 5 ≤ ns.length) : (putR ns).past.length + 5 = ns.length := by
  have := congrArg List.length (putR_nums h)
  rw [← this]
  simp [PutR.nums]
def rdRow (line : Str) : Option PutR := match Txt.split line " " with
  | w :: ws => if w = "put" ∧ 7 ≤ ws.length ∧ ws.length ≤ 10 then (nums ws).map putR else none
  | [] => none
def rdLog : List Str → Nat → List PutR ⊕ Nat
  | [], _ => .inl []
  | l :: ls, i => match rdRow l with
    | none => .inr i
    | some p => match rdLog ls (i + 1) with
      | .inl ps => .inl (p :: ps)
      | .inr r => .inr r
def comb (done : List PutR) : List PutR ⊕ Nat → List PutR ⊕ Nat
  | .inl ps => .inl (done ++ ps)
  | .inr r => .inr r
def rowsOf (x : Str) : List Str := if x = "" then [] else Txt.split x "\n"
theorem badRow_le {S S' : Store} {E : XE} {r : Int} (l : Le S S') (h : badRow S E r) : badRow S' (DrX E) r := fun dd hd => by
  have h0 : S dd = none := by
    cases e : S dd with
    | none => rfl
    | some o => rw [l _ _ e] at hd; cases hd
  exact ⟨_, le_put (le_upd l h0) h0 sup_same, h dd h0⟩
def sp_read_log : SpD := fun ds S Q E => ∃ x : Str, ds = [.str x] ∧ x.length ≤ 10000 ∧ (match rdLog (rowsOf x) 0 with | .inl ps => ∀ l, S l = none → Q (.ref l) (sup S l (.lst (ps.map PutR.d))) | .inr r => badRow S E r)
--MUT read_log | found
theorem sc_read_log : FnScope ["text", "found", "row", "line", "word", "words", "site", "number", "past", "turn", "key", "worth"] ["text"] (defScope s_read_log) := ⟨rfl, rfl, rfl, by decide +kernel, rfl, by decide +kernel, by decide +kernel⟩
theorem ok_read_log (G : Def K mg "read_log" s_read_log ["text"]) (T : Txt K mg) (c_numbers_of : Cal P w K mg base "numbers_of" 3 ["words", "row"] sp_numbers_of) (c_BadText : ExMk P w K mg base "BadText" 1 ["row"]) : Cal P w K mg base "read_log" 4 ["text"] sp_read_log := by
  refine G.calD sc_read_log (fun ds S Q E h => ?_) fun f cdv A outer s H E hr => ⟨_, (dpss_cons (dps_set (i := 1) sc_read_log.nd rfl (by first | exact Or.inl rfl | exact Or.inr rfl) (dpe_new (dpl_lst dpa_nil)))
    (dpss_cons (dps_for (passes_of rfl) rfl (dpi_enum rfl T.b_enumerate (dpa_cons (dpe_ifE (dpt_cmp (op_neA (hr.units)) lr_neA (dv 0) dpe_str (nomark _)) (dpe_fz (dpl_split (dv 0) (dpe_cst T.c_LINE rfl))) (dpe_fz (dpl_lst dpa_nil))) dpa_nil)) (dpg_tup (n := 2) rfl (dpgs_cons (dpg_name (vs := [2, 3]) (i := 2) sc_read_log.nd rfl (by first | exact Or.inl rfl | exact Or.inr rfl) (by decide)) (dpgs_cons (dpg_name (vs := [2, 3]) (i := 3) sc_read_log.nd rfl (by first | exact Or.inl rfl | exact Or.inr rfl) (by decide)) dpgs_nil))) (dpss_cons (dps_asg (dpe_fz (dpl_split (dv 3) dpe_str)) (dpg_star (n := 2) (i := 1) rfl (dpgs_cons (dpg_name (vs := [4, 5]) (i := 4) sc_read_log.nd rfl (by first | exact Or.inl rfl | exact Or.inr rfl) (by decide)) (dpgs_star (dpg_name (vs := [4, 5]) (i := 5) sc_read_log.nd rfl (by first | exact Or.inl rfl | exact Or.inr rfl) (by decide)) dpgs_nil)) (by decide)))
    (dpss_cons (dps_if (dpw_pt (dpw_or (dpt_cmp (op_neA (hr.units)) lr_neA (dv 4) (dpe_cst T.c_PUT rfl) (nomark _)) (dpw_or1 (dpt_not (dpt_chain op_le op_le lr_cmp lr_cmp (dpe_op op_addX lr_addX dpe_int (dpe_cst T.c_LEAST_SITES rfl)) (dpe_ba call_len lc_len rfl T.b_len bb_len (dpa_cons (dv 5) dpa_nil)) (dpe_op op_addX lr_addX dpe_int (dpe_cst T.c_MOST_SITES rfl))))))) (dpss_one (dps_rzI c_BadText hr (by first | decide | omega) rfl (takes_of rfl rfl rfl rfl) rfl (dpa_cons (dv 2) dpa_nil))) dpss_nil)
    (dpss_cons (dps_asg (dpe_cal c_numbers_of hr (by first | decide | omega) rfl (takes_of rfl rfl rfl rfl) (dpa_cons (dv 5) (dpa_cons (dv 2) dpa_nil))) (dpg_star (n := 6) (i := 2) rfl (dpgs_cons (dpg_name (vs := [6, 7, 9, 10, 11, 8]) (i := 6) sc_read_log.nd rfl (by first | exact Or.inl rfl | exact Or.inr rfl) (by decide)) (dpgs_cons (dpg_name (vs := [6, 7, 9, 10, 11, 8]) (i := 7) sc_read_log.nd rfl (by first | exact Or.inl rfl | exact Or.inr rfl) (by decide)) (dpgs_star (dpg_name (vs := [6, 7, 9, 10, 11, 8]) (i := 8) sc_read_log.nd rfl (by first | exact Or.inl rfl | exact Or.inr rfl) (by decide)) (dpgs_cons (dpg_name (vs := [6, 7, 9, 10, 11, 8]) (i := 9) sc_read_log.nd rfl (by first | exact Or.inl rfl | exact Or.inr rfl) (by decide)) (dpgs_cons (dpg_name (vs := [6, 7, 9, 10, 11, 8]) (i := 10) sc_read_log.nd rfl (by first | exact Or.inl rfl | exact Or.inr rfl) (by decide)) (dpgs_cons (dpg_name (vs := [6, 7, 9, 10, 11, 8]) (i := 11) sc_read_log.nd rfl (by first | exact Or.inl rfl | exact Or.inr rfl) (by decide)) dpgs_nil)))))) (by decide)))
    (dpss_one (dps_expr (dpe_bm PySem.F.plainAttrs_list PySem.F.slot_list_append PySem.F.type_list_append mt_append lm_append ty_list (dv 1) (dpa_cons (dpe_tup (dpa_cons (dv 6) (dpa_cons (dv 7) (dpa_cons (dpe_tv call_tuple_of lc_tup rfl T.b_tuple bb_tuple (dpv_ls (dv 8))) (dpa_cons (dv 9) (dpa_cons (dv 10) (dpa_cons (dv 11) dpa_nil))))))) dpa_nil))))))))
    (dpss_one (dps_ret (dv 1))))), ?_⟩
  · obtain ⟨x, rfl, _⟩ := h; rfl
  · rintro ds S Q ED ⟨x, rfl, l1, h2⟩
    simp only [↓DL.wSeq, ↓DL.wSlT, ↓DL.wNo, ↓DL.wPart, ↓DL.dSlT, ↓DL.dCat, ↓DL.dListT, ↓DL.wFor, ↓DL.iR1, ↓DL.iR2, ↓DL.iTp, ↓DL.iLs, ↓DL.iNw, ↓DL.iLn, ↓DL.wNext, ↓DL.wIf, ↓DL.wRet, ↓DL.wRetN, ↓DL.wDrop, ↓DL.wAsg, ↓DL.gNm, ↓DL.wPar, ↓DL.wVar, ↓DL.wC, ↓DL.wOp, ↓DL.wUn, ↓DL.wTst, ↓DL.wChain, ↓DL.wAnd, ↓DL.wOr, ↓DL.wNot, ↓DL.wAndV, ↓DL.wOrV, ↓DL.wNotV, ↓DL.wIfE, ↓DL.wNil, ↓DL.wCons, ↓DL.wTup, ↓DL.wLst, ↓DL.wNew, ↓DL.wDer, ↓DL.wVL, ↓DL.wVLL, ↓DL.wALL, ↓DL.wCall, ↓DL.wIsa, ↓DL.wRaise, ↓DL.isB, ↓DL.dI0, ↓DL.dI, ↓DL.dU, ↓DL.dLen, ↓DL.dIx, ↓DL.gSubD, ↓DL.setD, ↓DL.wBM, ↓DL.isL, ↓DL.onL, ↓DL.dPopAt, ↓DL.dAppend, ↓DL.wIxV, ↓DL.wEqVL, ↓DL.wEqL, ↓DL.dEqS, ↓DL.dNeS, ↓DL.startD, List.map_cons, List.map_nil, List.length_cons, List.length_nil, List.cons_append, List.nil_append, List.replicate_succ, List.replicate_zero, List.getElem?_cons_zero, List.getElem?_cons_succ, List.set_cons_zero, List.set_cons_succ, Nat.reduceAdd, Nat.reduceSub, Nat.sub_self, ↓DL.kindD, ↓DL.dIsN, ↓DL.dNotN, ↓DL.isaB, String.reduceBEq, Bool.or_false, Bool.false_or, Bool.true_or, Bool.or_true, Bool.and_true, Bool.and_false, Bool.true_and, Bool.false_and, decide_true, decide_false, ↓DL.isNon, if_true, if_false, Bool.not_true, Bool.not_false, Bool.false_eq_true, reduceIte, true_and, and_true, ↓DL.dAddX, ↓DL.dMulX, ↓DL.dIxX, ↓DL.wSlX, ↓DL.dSlX, ↓DL.wSlL2, ↓DL.withL_rl, ↓DL.lsOf, ↓DL.wDerL, ↓DL.wFz, ↓DL.wFzR, ↓DL.frzD, ↓DL.wSide, ↓DL.wCatX, ↓DL.dEqA, ↓DL.scalEq, ↓DL.eqB, ↓DL.iLq, ↓DL.iSg, ↓DL.iEn, ↓DL.wM1, ↓DL.isStr, ↓DL.dJoin, ↓DL.dStrip, ↓DL.wSplit, ↓DL.dIntX, ↓DL.dInF, ↓DL.dInS, ↓DL.seqOf, ↓DL.wPar3, ↓DL.wFld, ↓DL.fldD, ↓DL.wSetF, ↓DL.setFD, ↓DL.wAugF, ↓DL.wMeth, ↓DL.recvD, ↓DL.wMake, ↓DL.fillP, ↓DL.wAsg2, ↓DL.gFldD, ↓DL.gStD, ↓DL.starV, ↓DL.gCs, ↓DL.gNl, ↓DL.gTp, Nat.add_zero, List.append_nil, List.zipWith_nil_left, List.zipWith_cons_cons, List.getD_cons_zero, ↓DL.wYes, reduceCtorEq, ↓DL.dEqX, ↓DL.dInD, DL.dataS_rl, DL.dataS_tup, DL.dataS_int, DL.dataS_str, DL.dataS_non, DL.dataD_nil, DL.dataD_ti, DL.dataD_li, ↓DL.isL2, ↓DL.dCountX, ↓DL.dIndexX, Option.isSome_some, ↓DL.dStrX]
    refine ⟨Nat.zero_le _, fun p hp => ?_⟩
    have rows : ∀ z, z ∈ rowsOf x → z.length ≤ 10000 := fun z hz => by
      unfold rowsOf at hz
      split at hz
      · cases hz
      · have := split_mem sepN hz
        omega
    have lr : (rowsOf x).length ≤ 10001 := by
      unfold rowsOf
      split
      · simp
      · have := split_len x sepN
        omega
    have go : ∀ (g : DG) (b : DS) (DD : DEnds) (σ0 : DSt) (S0 : Store), (∀ rows, rows = rowsOf x → forW (fun _ => True) g b (enumD (rows.map D.str)) DD σ0 S0) →
        (if (!decide (x = "")) = true then ((("\n" : Str).length == 0) = false ∧ x.length + 2 ≤ sizeLine) ∧ forW (fun _ => True) g b (enumD ((Txt.split x "\n").map D.str)) DD σ0 S0 else 0 ≤ sizeLine ∧ forW (fun _ => True) g b (enumD []) DD σ0 S0) := fun g b DD σ0 S0 h => by
      have hx := h _ rfl
      unfold rowsOf at hx
      by_cases e : x = ""
      · rw [if_pos e] at hx
        rw [if_neg (by simp [e])]
        exact ⟨Nat.zero_le _, hx⟩
      · rw [if_neg e] at hx
        rw [if_pos (by simp [e])]
        exact ⟨⟨by decide, by rw [sizeLine_eq]; omega⟩, hx⟩
    refine go _ _ _ _ _ fun rs ers => ?_
    rw [← ers] at rows lr h2
    clear go ers
    have ee : enumD (rs.map D.str) = (rs.zipIdx 0).map fun q => .tup [.int (q.2 : Nat), .str q.1] := by
      unfold enumD
      rw [List.zipIdx_map, List.map_map]
      rfl
    rw [ee]
    refine forW_ind (fun ds σ S' => ∃ (done : List PutR) (todo : List Str) (c2 c3 c4 c5 c6 c7 c8 c9 c10 c11 : Option D), done.length + todo.length = rs.length ∧ (∀ z ∈ todo, z.length ≤ 10000) ∧ rdLog rs 0 = comb done (rdLog todo done.length) ∧ ds = (todo.zipIdx done.length).map (fun q => D.tup [.int (q.2 : Nat), .str q.1]) ∧ σ = [some (.str x), some (.ref p), c2, c3, c4, c5, c6, c7, c8, c9, c10, c11] ∧ S' = sup S p (.lst (done.map PutR.d))) ?_ ?_ ⟨[], rs, _, _, _, _, _, _, _, _, _, _, by simp, rows, by cases rdLog rs 0 <;> rfl, rfl, rfl, rfl⟩
    · rintro σ S' ⟨done, todo, c2, c3, c4, c5, c6, c7, c8, c9, c10, c11, hl, hz, er, et, rfl, rfl⟩
      cases todo with
      | cons t todo => cases et
      | nil =>
        rw [er] at h2
        simp only [rdLog, comb, List.append_nil] at h2
        refine ⟨trivial, ?_⟩
        simp only [↓DL.wSeq, ↓DL.wSlT, ↓DL.wNo, ↓DL.wPart, ↓DL.dSlT, ↓DL.dCat, ↓DL.dListT, ↓DL.wFor, ↓DL.iR1, ↓DL.iR2, ↓DL.iTp, ↓DL.iLs, ↓DL.iNw, ↓DL.iLn, ↓DL.wNext, ↓DL.wIf, ↓DL.wRet, ↓DL.wRetN, ↓DL.wDrop, ↓DL.wAsg, ↓DL.gNm, ↓DL.wPar, ↓DL.wVar, ↓DL.wC, ↓DL.wOp, ↓DL.wUn, ↓DL.wTst, ↓DL.wChain, ↓DL.wAnd, ↓DL.wOr, ↓DL.wNot, ↓DL.wAndV, ↓DL.wOrV, ↓DL.wNotV, ↓DL.wIfE, ↓DL.wNil, ↓DL.wCons, ↓DL.wTup, ↓DL.wLst, ↓DL.wNew, ↓DL.wDer, ↓DL.wVL, ↓DL.wVLL, ↓DL.wALL, ↓DL.wCall, ↓DL.wIsa, ↓DL.wRaise, ↓DL.isB, ↓DL.dI0, ↓DL.dI, ↓DL.dU, ↓DL.dLen, ↓DL.dIx, ↓DL.gSubD, ↓DL.setD, ↓DL.wBM, ↓DL.isL, ↓DL.onL, ↓DL.dPopAt, ↓DL.dAppend, ↓DL.wIxV, ↓DL.wEqVL, ↓DL.wEqL, ↓DL.dEqS, ↓DL.dNeS, ↓DL.startD, List.map_cons, List.map_nil, List.length_cons, List.length_nil, List.cons_append, List.nil_append, List.replicate_succ, List.replicate_zero, List.getElem?_cons_zero, List.getElem?_cons_succ, List.set_cons_zero, List.set_cons_succ, Nat.reduceAdd, Nat.reduceSub, Nat.sub_self, ↓DL.kindD, ↓DL.dIsN, ↓DL.dNotN, ↓DL.isaB, String.reduceBEq, Bool.or_false, Bool.false_or, Bool.true_or, Bool.or_true, Bool.and_true, Bool.and_false, Bool.true_and, Bool.false_and, decide_true, decide_false, ↓DL.isNon, if_true, if_false, Bool.not_true, Bool.not_false, Bool.false_eq_true, reduceIte, true_and, and_true, ↓DL.dAddX, ↓DL.dMulX, ↓DL.dIxX, ↓DL.wSlX, ↓DL.dSlX, ↓DL.wSlL2, ↓DL.withL_rl, ↓DL.lsOf, ↓DL.wDerL, ↓DL.wFz, ↓DL.wFzR, ↓DL.frzD, ↓DL.wSide, ↓DL.wCatX, ↓DL.dEqA, ↓DL.scalEq, ↓DL.eqB, ↓DL.iLq, ↓DL.iSg, ↓DL.iEn, ↓DL.wM1, ↓DL.isStr, ↓DL.dJoin, ↓DL.dStrip, ↓DL.wSplit, ↓DL.dIntX, ↓DL.dInF, ↓DL.dInS, ↓DL.seqOf, ↓DL.wPar3, ↓DL.wFld, ↓DL.fldD, ↓DL.wSetF, ↓DL.setFD, ↓DL.wAugF, ↓DL.wMeth, ↓DL.recvD, ↓DL.wMake, ↓DL.fillP, ↓DL.wAsg2, ↓DL.gFldD, ↓DL.gStD, ↓DL.starV, ↓DL.gCs, ↓DL.gNl, ↓DL.gTp, Nat.add_zero, List.append_nil, List.zipWith_nil_left, List.zipWith_cons_cons, List.getD_cons_zero, ↓DL.wYes, reduceCtorEq, ↓DL.dEqX, ↓DL.dInD, DL.dataS_rl, DL.dataS_tup, DL.dataS_int, DL.dataS_str, DL.dataS_non, DL.dataD_nil, DL.dataD_ti, DL.dataD_li, ↓DL.isL2, ↓DL.dCountX, ↓DL.dIndexX, Option.isSome_some, ↓DL.dStrX]
        exact ⟨_, Le.refl _, h2 p hp⟩
    · rintro d2 ds σ S' ⟨done, todo, c2, c3, c4, c5, c6, c7, c8, c9, c10, c11, hl, hz, er, et, rfl, rfl⟩ nx
      cases todo with
      | nil => cases et
      | cons t todo =>
        rw [List.zipIdx_cons, List.map_cons] at et
        cases et
        refine ⟨trivial, ?_⟩
        rw [List.length_cons] at hl
        have tl := hz t (by simp)
        generalize hst : forW _ _ _ _ _ = NX at nx ⊢
        clear hst
        simp only [↓DL.wSeq_nx, ↓DL.wSlT, ↓DL.wNo, ↓DL.wPart, ↓DL.dSlT, ↓DL.dCat, ↓DL.dListT, ↓DL.wFor, ↓DL.iR1, ↓DL.iR2, ↓DL.iTp, ↓DL.iLs, ↓DL.iNw, ↓DL.iLn, ↓DL.wNext, ↓DL.wIf, ↓DL.wRet, ↓DL.wRetN, ↓DL.wDrop, ↓DL.wAsg, ↓DL.gNm, ↓DL.wPar, ↓DL.wVar, ↓DL.wC, ↓DL.wOp, ↓DL.wUn, ↓DL.wTst, ↓DL.wChain, ↓DL.wAnd, ↓DL.wOr, ↓DL.wNot, ↓DL.wAndV, ↓DL.wOrV, ↓DL.wNotV, ↓DL.wIfE, ↓DL.wNil, ↓DL.wCons, ↓DL.wTup, ↓DL.wLst, ↓DL.wNew, ↓DL.wDer, ↓DL.wVL, ↓DL.wVLL, ↓DL.wALL, ↓DL.wCall, ↓DL.wIsa, ↓DL.wRaise, ↓DL.isB, ↓DL.dI0, ↓DL.dI, ↓DL.dU, ↓DL.dLen, ↓DL.dIx, ↓DL.gSubD, ↓DL.setD, ↓DL.wBM, ↓DL.isL, ↓DL.onL, ↓DL.dPopAt, ↓DL.dAppend, ↓DL.wIxV, ↓DL.wEqVL, ↓DL.wEqL, ↓DL.dEqS, ↓DL.dNeS, ↓DL.startD, List.map_cons, List.map_nil, List.length_cons, List.length_nil, List.cons_append, List.nil_append, List.replicate_succ, List.replicate_zero, List.getElem?_cons_zero, List.getElem?_cons_succ, List.set_cons_zero, List.set_cons_succ, Nat.reduceAdd, Nat.reduceSub, Nat.sub_self, ↓DL.kindD, ↓DL.dIsN, ↓DL.dNotN, ↓DL.isaB, String.reduceBEq, Bool.or_false, Bool.false_or, Bool.true_or, Bool.or_true, Bool.and_true, Bool.and_false, Bool.true_and, Bool.false_and, decide_true, decide_false, ↓DL.isNon, if_true, if_false, Bool.not_true, Bool.not_false, Bool.false_eq_true, reduceIte, true_and, and_true, ↓DL.dAddX, ↓DL.dMulX, ↓DL.dIxX, ↓DL.wSlX, ↓DL.dSlX, ↓DL.wSlL2, ↓DL.withL_rl, ↓DL.lsOf, ↓DL.wDerL, ↓DL.wFz, ↓DL.wFzR, ↓DL.frzD, ↓DL.wSide, ↓DL.wCatX, ↓DL.dEqA, ↓DL.scalEq, ↓DL.eqB, ↓DL.iLq, ↓DL.iSg, ↓DL.iEn, ↓DL.wM1, ↓DL.isStr, ↓DL.dJoin, ↓DL.dStrip, ↓DL.wSplit, ↓DL.dIntX, ↓DL.dInF, ↓DL.dInS, ↓DL.seqOf, ↓DL.wPar3, ↓DL.wFld, ↓DL.fldD, ↓DL.wSetF, ↓DL.setFD, ↓DL.wAugF, ↓DL.wMeth, ↓DL.recvD, ↓DL.wMake, ↓DL.fillP, ↓DL.wAsg2, ↓DL.gFldD, ↓DL.gStD, ↓DL.gCs, ↓DL.gNl, ↓DL.gTp, Nat.add_zero, List.append_nil, List.zipWith_nil_left, List.zipWith_cons_cons, List.getD_cons_zero, ↓DL.wYes, reduceCtorEq, ↓DL.dEqX, ↓DL.dInD, DL.dataS_rl, DL.dataS_tup, DL.dataS_int, DL.dataS_str, DL.dataS_non, DL.dataD_nil, DL.dataD_ti, DL.dataD_li, ↓DL.isL2, ↓DL.dCountX, ↓DL.dIndexX, Option.isSome_some, ↓DL.dStrX]
        obtain ⟨wd, ws, ew⟩ := List.exists_cons_of_ne_nil (split_ne t sepB)
        have sl := split_len t sepB
        have sm : ∀ z ∈ wd :: ws, z.length ≤ 10000 := fun z hz => by rw [← ew] at hz; have := split_mem sepB hz; omega
        rw [ew, List.length_cons] at sl
        have rt : rdRow t = if wd = "put" ∧ 7 ≤ ws.length ∧ ws.length ≤ 10 then (nums ws).map putR else none := by
          unfold rdRow
          rw [ew]
        have bad : rdRow t = none → badRow (sup S p (.lst (done.map PutR.d))) (DrX ED) done.length := fun z => by
          rw [er] at h2
          simp only [rdLog, z, comb] at h2
          exact badRow_le (Le.sup (Le.refl S) hp) h2
        rw [ew]
        simp only [↓DL.wSeq_nx, ↓DL.wSlT, ↓DL.wNo, ↓DL.wPart, ↓DL.dSlT, ↓DL.dCat, ↓DL.dListT, ↓DL.wFor, ↓DL.iR1, ↓DL.iR2, ↓DL.iTp, ↓DL.iLs, ↓DL.iNw, ↓DL.iLn, ↓DL.wNext, ↓DL.wIf, ↓DL.wRet, ↓DL.wRetN, ↓DL.wDrop, ↓DL.wAsg, ↓DL.gNm, ↓DL.wPar, ↓DL.wVar, ↓DL.wC, ↓DL.wOp, ↓DL.wUn, ↓DL.wTst, ↓DL.wChain, ↓DL.wAnd, ↓DL.wOr, ↓DL.wNot, ↓DL.wAndV, ↓DL.wOrV, ↓DL.wNotV, ↓DL.wIfE, ↓DL.wNil, ↓DL.wCons, ↓DL.wTup, ↓DL.wLst, ↓DL.wNew, ↓DL.wDer, ↓DL.wVL, ↓DL.wVLL, ↓DL.wALL, ↓DL.wCall, ↓DL.wIsa, ↓DL.wRaise, ↓DL.isB, ↓DL.dI0, ↓DL.dI, ↓DL.dU, ↓DL.dLen, ↓DL.dIx, ↓DL.gSubD, ↓DL.setD, ↓DL.wBM, ↓DL.isL, ↓DL.onL, ↓DL.dPopAt, ↓DL.dAppend, ↓DL.wIxV, ↓DL.wEqVL, ↓DL.wEqL, ↓DL.dEqS, ↓DL.dNeS, ↓DL.startD, List.map_cons, List.map_nil, List.length_cons, List.length_nil, List.cons_append, List.nil_append, List.replicate_succ, List.replicate_zero, List.getElem?_cons_zero, List.getElem?_cons_succ, List.set_cons_zero, List.set_cons_succ, Nat.reduceAdd, Nat.reduceSub, Nat.sub_self, ↓DL.kindD, ↓DL.dIsN, ↓DL.dNotN, ↓DL.isaB, String.reduceBEq, Bool.or_false, Bool.false_or, Bool.true_or, Bool.or_true, Bool.and_true, Bool.and_false, Bool.true_and, Bool.false_and, decide_true, decide_false, ↓DL.isNon, if_true, if_false, Bool.not_true, Bool.not_false, Bool.false_eq_true, reduceIte, true_and, and_true, ↓DL.dAddX, ↓DL.dMulX, ↓DL.dIxX, ↓DL.wSlX, ↓DL.dSlX, ↓DL.wSlL2, ↓DL.withL_rl, ↓DL.lsOf, ↓DL.wDerL, ↓DL.wFz, ↓DL.wFzR, ↓DL.frzD, ↓DL.wSide, ↓DL.wCatX, ↓DL.dEqA, ↓DL.scalEq, ↓DL.eqB, ↓DL.iLq, ↓DL.iSg, ↓DL.iEn, ↓DL.wM1, ↓DL.isStr, ↓DL.dJoin, ↓DL.dStrip, ↓DL.wSplit, ↓DL.dIntX, ↓DL.dInF, ↓DL.dInS, ↓DL.seqOf, ↓DL.wPar3, ↓DL.wFld, ↓DL.fldD, ↓DL.wSetF, ↓DL.setFD, ↓DL.wAugF, ↓DL.wMeth, ↓DL.recvD, ↓DL.wMake, ↓DL.fillP, ↓DL.wAsg2, ↓DL.gFldD, ↓DL.gStD, ↓DL.gCs, ↓DL.gNl, ↓DL.gTp, Nat.add_zero, List.append_nil, List.zipWith_nil_left, List.zipWith_cons_cons, List.getD_cons_zero, ↓DL.wYes, reduceCtorEq, ↓DL.dEqX, ↓DL.dInD, DL.dataS_rl, DL.dataS_tup, DL.dataS_int, DL.dataS_str, DL.dataS_non, DL.dataD_nil, DL.dataD_ti, DL.dataD_li, ↓DL.isL2, ↓DL.dCountX, ↓DL.dIndexX, Option.isSome_some, ↓DL.dStrX, star21]
        refine ⟨⟨by decide, by rw [sizeLine_eq]; omega⟩, by simp, by simp; omega, ?_⟩
        unfold Nx
        simp only [↓DL.wSeq_nx, ↓DL.wSlT, ↓DL.wNo, ↓DL.wPart, ↓DL.dSlT, ↓DL.dCat, ↓DL.dListT, ↓DL.wFor, ↓DL.iR1, ↓DL.iR2, ↓DL.iTp, ↓DL.iLs, ↓DL.iNw, ↓DL.iLn, ↓DL.wNext, ↓DL.wIf, ↓DL.wRet, ↓DL.wRetN, ↓DL.wDrop, ↓DL.wAsg, ↓DL.gNm, ↓DL.wPar, ↓DL.wVar, ↓DL.wC, ↓DL.wOp, ↓DL.wUn, ↓DL.wTst, ↓DL.wChain, ↓DL.wAnd, ↓DL.wOr, ↓DL.wNot, ↓DL.wAndV, ↓DL.wOrV, ↓DL.wNotV, ↓DL.wIfE, ↓DL.wNil, ↓DL.wCons, ↓DL.wTup, ↓DL.wLst, ↓DL.wNew, ↓DL.wDer, ↓DL.wVL, ↓DL.wVLL, ↓DL.wALL, ↓DL.wCall, ↓DL.wIsa, ↓DL.wRaise, ↓DL.isB, ↓DL.dI0, ↓DL.dI, ↓DL.dU, ↓DL.dLen, ↓DL.dIx, ↓DL.gSubD, ↓DL.setD, ↓DL.wBM, ↓DL.isL, ↓DL.onL, ↓DL.dPopAt, ↓DL.dAppend, ↓DL.wIxV, ↓DL.wEqVL, ↓DL.wEqL, ↓DL.dEqS, ↓DL.dNeS, ↓DL.startD, List.map_cons, List.map_nil, List.length_cons, List.length_nil, List.cons_append, List.nil_append, List.replicate_succ, List.replicate_zero, List.getElem?_cons_zero, List.getElem?_cons_succ, List.set_cons_zero, List.set_cons_succ, Nat.reduceAdd, Nat.reduceSub, Nat.sub_self, ↓DL.kindD, ↓DL.dIsN, ↓DL.dNotN, ↓DL.isaB, String.reduceBEq, Bool.or_false, Bool.false_or, Bool.true_or, Bool.or_true, Bool.and_true, Bool.and_false, Bool.true_and, Bool.false_and, decide_true, decide_false, ↓DL.isNon, if_true, if_false, Bool.not_true, Bool.not_false, Bool.false_eq_true, reduceIte, true_and, and_true, ↓DL.dAddX, ↓DL.dMulX, ↓DL.dIxX, ↓DL.wSlX, ↓DL.dSlX, ↓DL.wSlL2, ↓DL.withL_rl, ↓DL.lsOf, ↓DL.wDerL, ↓DL.wFz, ↓DL.wFzR, ↓DL.frzD, ↓DL.wSide, ↓DL.wCatX, ↓DL.dEqA, ↓DL.scalEq, ↓DL.eqB, ↓DL.iLq, ↓DL.iSg, ↓DL.iEn, ↓DL.wM1, ↓DL.isStr, ↓DL.dJoin, ↓DL.dStrip, ↓DL.wSplit, ↓DL.dIntX, ↓DL.dInF, ↓DL.dInS, ↓DL.seqOf, ↓DL.wPar3, ↓DL.wFld, ↓DL.fldD, ↓DL.wSetF, ↓DL.setFD, ↓DL.wAugF, ↓DL.wMeth, ↓DL.recvD, ↓DL.wMake, ↓DL.fillP, ↓DL.wAsg2, ↓DL.gFldD, ↓DL.gStD, ↓DL.gCs, ↓DL.gNl, ↓DL.gTp, Nat.add_zero, List.append_nil, List.zipWith_nil_left, List.zipWith_cons_cons, List.getD_cons_zero, ↓DL.wYes, reduceCtorEq, ↓DL.dEqX, ↓DL.dInD, DL.dataS_rl, DL.dataS_tup, DL.dataS_int, DL.dataS_str, DL.dataS_non, DL.dataD_nil, DL.dataD_ti, DL.dataD_li, ↓DL.isL2, ↓DL.dCountX, ↓DL.dIndexX, Option.isSome_some, ↓DL.dStrX, wRzI]
        by_cases q1 : wd = "put"
        · rw [if_neg (by simp [q1])]
          by_cases q2 : 7 ≤ ws.length ∧ ws.length ≤ 10
          · rw [if_pos (by simp; omega), if_neg (by simp; omega)]
            rw [if_pos ⟨q1, q2⟩] at rt
            unfold Nx
            simp only [↓DL.wSeq_nx, ↓DL.wSlT, ↓DL.wNo, ↓DL.wPart, ↓DL.dSlT, ↓DL.dCat, ↓DL.dListT, ↓DL.wFor, ↓DL.iR1, ↓DL.iR2, ↓DL.iTp, ↓DL.iLs, ↓DL.iNw, ↓DL.iLn, ↓DL.wNext, ↓DL.wIf, ↓DL.wRet, ↓DL.wRetN, ↓DL.wDrop, ↓DL.wAsg, ↓DL.gNm, ↓DL.wPar, ↓DL.wVar, ↓DL.wC, ↓DL.wOp, ↓DL.wUn, ↓DL.wTst, ↓DL.wChain, ↓DL.wAnd, ↓DL.wOr, ↓DL.wNot, ↓DL.wAndV, ↓DL.wOrV, ↓DL.wNotV, ↓DL.wIfE, ↓DL.wNil, ↓DL.wCons, ↓DL.wTup, ↓DL.wLst, ↓DL.wNew, ↓DL.wDer, ↓DL.wVL, ↓DL.wVLL, ↓DL.wALL, ↓DL.wCall, ↓DL.wIsa, ↓DL.wRaise, ↓DL.isB, ↓DL.dI0, ↓DL.dI, ↓DL.dU, ↓DL.dLen, ↓DL.dIx, ↓DL.gSubD, ↓DL.setD, ↓DL.wBM, ↓DL.isL, ↓DL.onL, ↓DL.dPopAt, ↓DL.dAppend, ↓DL.wIxV, ↓DL.wEqVL, ↓DL.wEqL, ↓DL.dEqS, ↓DL.dNeS, ↓DL.startD, List.map_cons, List.map_nil, List.length_cons, List.length_nil, List.cons_append, List.nil_append, List.replicate_succ, List.replicate_zero, List.getElem?_cons_zero, List.getElem?_cons_succ, List.set_cons_zero, List.set_cons_succ, Nat.reduceAdd, Nat.reduceSub, Nat.sub_self, ↓DL.kindD, ↓DL.dIsN, ↓DL.dNotN, ↓DL.isaB, String.reduceBEq, Bool.or_false, Bool.false_or, Bool.true_or, Bool.or_true, Bool.and_true, Bool.and_false, Bool.true_and, Bool.false_and, decide_true, decide_false, ↓DL.isNon, if_true, if_false, Bool.not_true, Bool.not_false, Bool.false_eq_true, reduceIte, true_and, and_true, ↓DL.dAddX, ↓DL.dMulX, ↓DL.dIxX, ↓DL.wSlX, ↓DL.dSlX, ↓DL.wSlL2, ↓DL.withL_rl, ↓DL.lsOf, ↓DL.wDerL, ↓DL.wFz, ↓DL.wFzR, ↓DL.frzD, ↓DL.wSide, ↓DL.wCatX, ↓DL.dEqA, ↓DL.scalEq, ↓DL.eqB, ↓DL.iLq, ↓DL.iSg, ↓DL.iEn, ↓DL.wM1, ↓DL.isStr, ↓DL.dJoin, ↓DL.dStrip, ↓DL.wSplit, ↓DL.dIntX, ↓DL.dInF, ↓DL.dInS, ↓DL.seqOf, ↓DL.wPar3, ↓DL.wFld, ↓DL.fldD, ↓DL.wSetF, ↓DL.setFD, ↓DL.wAugF, ↓DL.wMeth, ↓DL.recvD, ↓DL.wMake, ↓DL.fillP, ↓DL.wAsg2, ↓DL.gFldD, ↓DL.gStD, ↓DL.gCs, ↓DL.gNl, ↓DL.gTp, Nat.add_zero, List.append_nil, List.zipWith_nil_left, List.zipWith_cons_cons, List.getD_cons_zero, ↓DL.wYes, reduceCtorEq, ↓DL.dEqX, ↓DL.dInD, DL.dataS_rl, DL.dataS_tup, DL.dataS_int, DL.dataS_str, DL.dataS_non, DL.dataD_nil, DL.dataD_ti, DL.dataD_li, ↓DL.isL2, ↓DL.dCountX, ↓DL.dIndexX, Option.isSome_some, ↓DL.dStrX, sp_numbers_of]
            refine ⟨_, _, ws, rfl, rfl, by omega, fun z hz => by have := sm z (by simp [hz]); omega, ?_⟩
            cases en : nums ws with
            | none =>
              rw [en] at rt
              exact bad rt
            | some ns =>
              rw [en] at rt
              have ln := (nums_map en).2
              have pn := putR_nums (ns := ns) (by omega)
              have lp := putR_past (ns := ns) (by omega)
              dsimp only [Option.map_some] at rt
              generalize putR ns = q at rt pn lp
              rw [← pn]
              dsimp only
              simp only [↓DL.wSeq_nx, ↓DL.wSlT, ↓DL.wNo, ↓DL.wPart, ↓DL.dSlT, ↓DL.dCat, ↓DL.dListT, ↓DL.wFor, ↓DL.iR1, ↓DL.iR2, ↓DL.iTp, ↓DL.iLs, ↓DL.iNw, ↓DL.iLn, ↓DL.wNext, ↓DL.wIf, ↓DL.wRet, ↓DL.wRetN, ↓DL.wDrop, ↓DL.wAsg, ↓DL.gNm, ↓DL.wPar, ↓DL.wVar, ↓DL.wC, ↓DL.wOp, ↓DL.wUn, ↓DL.wTst, ↓DL.wChain, ↓DL.wAnd, ↓DL.wOr, ↓DL.wNot, ↓DL.wAndV, ↓DL.wOrV, ↓DL.wNotV, ↓DL.wIfE, ↓DL.wNil, ↓DL.wCons, ↓DL.wTup, ↓DL.wLst, ↓DL.wNew, ↓DL.wDer, ↓DL.wVL, ↓DL.wVLL, ↓DL.wALL, ↓DL.wCall, ↓DL.wIsa, ↓DL.wRaise, ↓DL.isB, ↓DL.dI0, ↓DL.dI, ↓DL.dU, ↓DL.dLen, ↓DL.dIx, ↓DL.gSubD, ↓DL.setD, ↓DL.wBM, ↓DL.isL, ↓DL.onL, ↓DL.dPopAt, ↓DL.dAppend, ↓DL.wIxV, ↓DL.wEqVL, ↓DL.wEqL, ↓DL.dEqS, ↓DL.dNeS, ↓DL.startD, List.map_cons, List.map_nil, List.length_cons, List.length_nil, List.cons_append, List.nil_append, List.replicate_succ, List.replicate_zero, List.getElem?_cons_zero, List.getElem?_cons_succ, List.set_cons_zero, List.set_cons_succ, Nat.reduceAdd, Nat.reduceSub, Nat.sub_self, ↓DL.kindD, ↓DL.dIsN, ↓DL.dNotN, ↓DL.isaB, String.reduceBEq, Bool.or_false, Bool.false_or, Bool.true_or, Bool.or_true, Bool.and_true, Bool.and_false, Bool.true_and, Bool.false_and, decide_true, decide_false, ↓DL.isNon, if_true, if_false, Bool.not_true, Bool.not_false, Bool.false_eq_true, reduceIte, true_and, and_true, ↓DL.dAddX, ↓DL.dMulX, ↓DL.dIxX, ↓DL.wSlX, ↓DL.dSlX, ↓DL.wSlL2, ↓DL.withL_rl, ↓DL.lsOf, ↓DL.wDerL, ↓DL.wFz, ↓DL.wFzR, ↓DL.frzD, ↓DL.wSide, ↓DL.wCatX, ↓DL.dEqA, ↓DL.scalEq, ↓DL.eqB, ↓DL.iLq, ↓DL.iSg, ↓DL.iEn, ↓DL.wM1, ↓DL.isStr, ↓DL.dJoin, ↓DL.dStrip, ↓DL.wSplit, ↓DL.dIntX, ↓DL.dInF, ↓DL.dInS, ↓DL.seqOf, ↓DL.wPar3, ↓DL.wFld, ↓DL.fldD, ↓DL.wSetF, ↓DL.setFD, ↓DL.wAugF, ↓DL.wMeth, ↓DL.recvD, ↓DL.wMake, ↓DL.fillP, ↓DL.wAsg2, ↓DL.gFldD, ↓DL.gStD, ↓DL.gCs, ↓DL.gNl, ↓DL.gTp, Nat.add_zero, List.append_nil, List.zipWith_nil_left, List.zipWith_cons_cons, List.getD_cons_zero, ↓DL.wYes, reduceCtorEq, ↓DL.dEqX, ↓DL.dInD, DL.dataS_rl, DL.dataS_tup, DL.dataS_int, DL.dataS_str, DL.dataS_non, DL.dataD_nil, DL.dataD_ti, DL.dataD_li, ↓DL.isL2, ↓DL.dCountX, ↓DL.dIndexX, Option.isSome_some, ↓DL.dStrX, star62]
              have nl : q.nums.length = q.past.length + 5 := by simp [PutR.nums]
              refine ⟨by simp; omega, by simp; omega, ?_⟩
              unfold Nx
              simp only [↓DL.wSeq, ↓DL.wSlT, ↓DL.wNo, ↓DL.wPart, ↓DL.dSlT, ↓DL.dCat, ↓DL.dListT, ↓DL.wFor, ↓DL.iR1, ↓DL.iR2, ↓DL.iTp, ↓DL.iLs, ↓DL.iNw, ↓DL.iLn, ↓DL.wNext, ↓DL.wIf, ↓DL.wRet, ↓DL.wRetN, ↓DL.wDrop, ↓DL.wAsg, ↓DL.gNm, ↓DL.wPar, ↓DL.wVar, ↓DL.wC, ↓DL.wOp, ↓DL.wUn, ↓DL.wTst, ↓DL.wChain, ↓DL.wAnd, ↓DL.wOr, ↓DL.wNot, ↓DL.wAndV, ↓DL.wOrV, ↓DL.wNotV, ↓DL.wIfE, ↓DL.wNil, ↓DL.wCons, ↓DL.wTup, ↓DL.wLst, ↓DL.wNew, ↓DL.wDer, ↓DL.wVL, ↓DL.wVLL, ↓DL.wALL, ↓DL.wCall, ↓DL.wIsa, ↓DL.wRaise, ↓DL.isB, ↓DL.dI0, ↓DL.dI, ↓DL.dU, ↓DL.dLen, ↓DL.dIx, ↓DL.gSubD, ↓DL.setD, ↓DL.wBM, ↓DL.isL, ↓DL.onL, ↓DL.dPopAt, ↓DL.dAppend, ↓DL.wIxV, ↓DL.wEqVL, ↓DL.wEqL, ↓DL.dEqS, ↓DL.dNeS, ↓DL.startD, List.map_cons, List.map_nil, List.length_cons, List.length_nil, List.cons_append, List.nil_append, List.replicate_succ, List.replicate_zero, List.getElem?_cons_zero, List.getElem?_cons_succ, List.set_cons_zero, List.set_cons_succ, Nat.reduceAdd, Nat.reduceSub, Nat.sub_self, ↓DL.kindD, ↓DL.dIsN, ↓DL.dNotN, ↓DL.isaB, String.reduceBEq, Bool.or_false, Bool.false_or, Bool.true_or, Bool.or_true, Bool.and_true, Bool.and_false, Bool.true_and, Bool.false_and, decide_true, decide_false, ↓DL.isNon, if_true, if_false, Bool.not_true, Bool.not_false, Bool.false_eq_true, reduceIte, true_and, and_true, ↓DL.dAddX, ↓DL.dMulX, ↓DL.dIxX, ↓DL.wSlX, ↓DL.dSlX, ↓DL.wSlL2, ↓DL.withL_rl, ↓DL.lsOf, ↓DL.wDerL, ↓DL.wFz, ↓DL.wFzR, ↓DL.frzD, ↓DL.wSide, ↓DL.wCatX, ↓DL.dEqA, ↓DL.scalEq, ↓DL.eqB, ↓DL.iLq, ↓DL.iSg, ↓DL.iEn, ↓DL.wM1, ↓DL.isStr, ↓DL.dJoin, ↓DL.dStrip, ↓DL.wSplit, ↓DL.dIntX, ↓DL.dInF, ↓DL.dInS, ↓DL.seqOf, ↓DL.wPar3, ↓DL.wFld, ↓DL.fldD, ↓DL.wSetF, ↓DL.setFD, ↓DL.wAugF, ↓DL.wMeth, ↓DL.recvD, ↓DL.wMake, ↓DL.fillP, ↓DL.wAsg2, ↓DL.gFldD, ↓DL.gStD, ↓DL.starV, ↓DL.gCs, ↓DL.gNl, ↓DL.gTp, Nat.add_zero, List.append_nil, List.zipWith_nil_left, List.zipWith_cons_cons, List.getD_cons_zero, ↓DL.wYes, reduceCtorEq, ↓DL.dEqX, ↓DL.dInD, DL.dataS_rl, DL.dataS_tup, DL.dataS_int, DL.dataS_str, DL.dataS_non, DL.dataD_nil, DL.dataD_ti, DL.dataD_li, ↓DL.isL2, ↓DL.dCountX, ↓DL.dIndexX, Option.isSome_some, ↓DL.dStrX, dTupOf, sup_same]
              have e2 : rdLog rs 0 = comb (done ++ [q]) (rdLog todo (done ++ [q]).length) := by
                rw [er]
                simp only [rdLog, rt, List.length_append, List.length_singleton]
                cases rdLog todo (done.length + 1) <;> simp [comb]
              refine ⟨by decide, by simp; rw [sizeLine_eq]; omega, nx _ _ ⟨done ++ [q], todo, _, _, _, _, _, _, _, _, _, _, by simp; omega, fun z hz' => hz z (by simp [hz']), e2, by simp, rfl, ?_⟩⟩
              rw [sup_sup, List.map_append]
              rfl
          · have bd := bad (by rw [rt, if_neg (fun z => q2 z.2)])
            by_cases q3 : 7 ≤ ws.length
            · rw [if_pos (by simp; omega), if_pos (by simp; omega)]
              exact bd
            · rw [if_neg (by simp; omega)]
              exact bd
        · rw [if_pos (by simp [q1])]
          exact bad (by rw [rt, if_neg (fun z => q1 z.1)])
--CUT
/-! ### the law's own reader -/
theorem getD_at {l : List Nat} {k : Nat} (h : k < l.length) : l.getD k 0 = l[k] := by simp [List.getD, h]
open PySem.Builtin PySem.Builtin.Str in
theorem strip_all (x y : Str) : Txt.stripChars x y = "" ↔ ∀ c ∈ x.cps.toList, y.cps.contains c = true := by
  have hl : x.length = x.cps.toList.length := Array.length_toList.symm
  unfold Txt.stripChars
  rw [stripBy_eq]
  generalize hg : (y.cps.contains : Nat → Bool) = goes
  obtain ⟨a1, a2, a3⟩ := lo_facts goes x
  obtain ⟨b1, b2, b3, b4⟩ := hi_facts goes x (stripLo goes true x) a1
  have e : (strSub x (stripLo goes true x) (stripHi goes true x (stripLo goes true x)) = "") ↔ (stripHi goes true x (stripLo goes true x) ≤ stripLo goes true x) := by
    have t := TL.tl_strSub x (stripLo goes true x) (stripHi goes true x (stripLo goes true x))
    constructor
    · intro z
      rw [z] at t
      have t2 := congrArg List.length t
      rw [List.length_take, List.length_drop] at t2
      have : (TL.tl ("" : Str)).length = 0 := rfl
      have hl2 : (TL.tl x).length = x.length := hl.symm
      omega
    · intro z
      refine TL.ext_tl ?_
      rw [t, show stripHi goes true x (stripLo goes true x) - stripLo goes true x = 0 by omega, List.take_zero]
      rfl
  rw [e]
  constructor
  · intro z c hc
    obtain ⟨k, hk, rfl⟩ := List.getElem_of_mem hc
    have ec : x.cps.toList[k] = x.cps.getD k 0 := by
      rw [← getD_list]
      exact (getD_at hk).symm
    rw [ec]
    by_cases q : k < stripLo goes true x
    · exact a2 k q
    · exact b3 k (by omega) (by omega)
  · intro z
    rcases a3 with q | q
    · omega
    · rcases b4 with r | r
      · omega
      · by_cases q3 : 0 < x.length
        · exfalso
          by_cases q2 : stripLo goes true x < x.length
          · have : goes (x.cps.getD (stripLo goes true x) 0) = true := by
              rw [← getD_list]
              refine z _ ?_
              rw [getD_at (by omega)]
              exact List.getElem_mem _
            rw [q] at this
            cases this
          · have : goes (x.cps.getD (stripHi goes true x (stripLo goes true x) - 1) 0) = true := by
              rw [← getD_list]
              refine z _ ?_
              rw [getD_at (by omega)]
              exact List.getElem_mem _
            rw [r] at this
            cases this
        · omega
theorem isFig_has (c : Nat) : isFig c = (("0123456789" : Str).cps.contains c) := by
  unfold isFig
  rw [Bool.eq_iff_iff, decide_eq_true_eq]
  simp
theorem strip_fig (f : Str) : (Txt.stripChars f "0123456789" = "") ↔ f.cps.toList.all isFig = true := by
  rw [strip_all, List.all_eq_true]
  exact ⟨fun h c hc => by rw [isFig_has]; exact h c hc, fun h c hc => by rw [← isFig_has]; exact h c hc⟩
theorem char_back : ∀ {cs : List Nat}, NumText.AllDigits cs → (cs.map Char.ofNat).map Char.toNat = cs
  | [], _ => rfl
  | c :: cs, h => by
    have hc := h.head
    have : (Char.ofNat c).toNat = c := by
      have : c = 48 ∨ c = 49 ∨ c = 50 ∨ c = 51 ∨ c = 52 ∨ c = 53 ∨ c = 54 ∨ c = 55 ∨ c = 56 ∨ c = 57 := by omega
      rcases this with rfl | rfl | rfl | rfl | rfl | rfl | rfl | rfl | rfl | rfl <;> rfl
    rw [List.map_cons, List.map_cons, this, char_back h.tail]
theorem nS_digits {cs : List Nat} (h : NumText.AllDigits cs) : (nS ((NumText.digitsVal cs : Nat) : Int)).cps.toList = (match cs.dropWhile (· == 48) with | [] => [48] | c :: r => c :: r) := by
  unfold nS
  rw [show ((toString ((NumText.digitsVal cs : Nat) : Int) : String) : Str) = PySem.Str.ofString (toString ((NumText.digitsVal cs : Nat) : Int)) from rfl, PySem.W.KIN.signs_num, NumText.toDigits_all cs h]
  have hd : NumText.AllDigits (cs.dropWhile (· == 48)) := fun c hc => h c ((List.dropWhile_sublist _).subset hc)
  cases e : cs.dropWhile (· == 48) with
  | nil => rfl
  | cons c r =>
    rw [e] at hd
    exact char_back hd
theorem nS_same {f : Str} (h : NumText.AllDigits f.cps.toList) {c : Nat} {r : List Nat} (e : f.cps.toList = c :: r) : (nS ((NumText.digitsVal f.cps.toList : Nat) : Int) = f) ↔ (c = 48 → r = []) := by
  have d := nS_digits h
  have x : (nS ((NumText.digitsVal f.cps.toList : Nat) : Int) = f) ↔ (nS ((NumText.digitsVal f.cps.toList : Nat) : Int)).cps.toList = f.cps.toList := ⟨fun z => by rw [z], fun z => TL.ext_tl z⟩
  rw [x, d, e]
  by_cases q : c = 48
  · subst q
    rw [List.dropWhile_cons, if_pos (by decide)]
    constructor
    · intro z _
      cases hr : r.dropWhile (· == 48) with
      | nil =>
        rw [hr] at z
        simpa using z.symm
      | cons a b =>
        rw [hr] at z
        have l1 := (List.dropWhile_sublist (fun c : Nat => c == 48) (l := r)).length_le
        rw [hr] at l1
        have l2 := congrArg List.length z
        simp at l1 l2
        omega
    · intro z
      rw [z rfl]
      rfl
  · rw [List.dropWhile_cons, if_neg (by simpa using q)]
    exact ⟨fun _ z => absurd z q, fun _ => rfl⟩
theorem fold_lt : ∀ {cs : List Nat} (a : Nat), NumText.AllDigits cs → cs.foldl (fun acc c => acc * 10 + (c - 48)) a < (a + 1) * 10 ^ cs.length
  | [], a, _ => by simp
  | c :: cs, a, h => by
    have hc := h.head
    have ih := fold_lt (cs := cs) (a * 10 + (c - 48)) h.tail
    rw [List.foldl_cons, List.length_cons, Nat.pow_succ]
    have : (a * 10 + (c - 48) + 1) * 10 ^ cs.length ≤ ((a + 1) * 10) * 10 ^ cs.length := Nat.mul_le_mul_right _ (by omega)
    have e : (a + 1) * (10 ^ cs.length * 10) = ((a + 1) * 10) * 10 ^ cs.length := by rw [Nat.mul_comm (10 ^ cs.length) 10, Nat.mul_assoc]
    omega
theorem digitsVal_lt {cs : List Nat} (h : NumText.AllDigits cs) : NumText.digitsVal cs < 10 ^ cs.length := by
  have := fold_lt 0 h
  rw [Nat.zero_add, Nat.one_mul] at this
  exact this
/-- a word, as the law looks at it -/
theorem word_none {x : Str} (h : ¬ (1 ≤ (figs x).length ∧ (figs x).length ≤ 4 ∧ (figs x).cps.toList.all isFig = true)) : wnum x = none := by
  unfold wnum numOfD numOfF
  rw [if_neg h]
theorem figs_or (x : Str) : x = figs x ∨ x.cps.toList = 45 :: (figs x).cps.toList := by
  unfold figs
  split
  · rename_i q
    exact .inr (cut_tail x q)
  · exact .inl rfl
theorem word_some {x : Str} (h1 : 1 ≤ (figs x).length) (h4 : (figs x).length ≤ 4) (al : (figs x).cps.toList.all isFig = true) :
    ∃ v n : Int, PySem.intText? (figs x) = some v ∧ PySem.intText? x = some n ∧ v.natAbs.log2 < 1920 ∧ x.length ≤ 640 ∧ wnum x = (if nS v = figs x ∧ x ≠ "-0" then some n else none) := by
  have hd := fig_digit al
  have hl : (figs x).length = (figs x).cps.toList.length := Array.length_toList.symm
  obtain ⟨c, r, ec⟩ : ∃ c r, (figs x).cps.toList = c :: r := by
    cases e : (figs x).cps.toList with
    | nil => rw [e] at hl; simp at hl; omega
    | cons c r => exact ⟨c, r, rfl⟩
  have ne : (figs x).cps.toList ≠ [] := by rw [ec]; simp
  have ev := PySem.intText_digits (x := figs x) hd ne (by omega)
  obtain ⟨n, en⟩ := figs_int (figs_len h4) al ne
  have hv : NumText.digitsVal (figs x).cps.toList < 10 ^ 4 := by
    have := digitsVal_lt hd
    refine Nat.lt_of_lt_of_le this (Nat.pow_le_pow_right (by decide) (by omega))
  refine ⟨_, n, ev, en, ?_, figs_len h4, ?_⟩
  · rw [Int.natAbs_natCast]
    by_cases z : NumText.digitsVal (figs x).cps.toList = 0
    · rw [z]; decide
    · have := (Nat.log2_lt z (k := 14)).mpr (by omega)
      omega
  · have sm := nS_same hd ec
    unfold wnum numOfD numOfF
    rw [if_pos ⟨h1, h4, al⟩, en]
    have e0 : ((figs x).cps.toList[0]? = some 48) ↔ c = 48 := by rw [ec]; simp
    have key : (¬ ((figs x).cps.toList[0]? = some 48 ∧ x ≠ "0")) ↔ (nS ((NumText.digitsVal (figs x).cps.toList : Nat) : Int) = figs x ∧ x ≠ "-0") := by
      rw [e0, sm]
      rcases figs_or x with q | q
      · have xm : x ≠ "-0" := fun z => by
          have t : x.cps.toList = [45, 48] := by rw [z]; rfl
          rw [q, ec] at t
          have : c = 45 := by simpa using (List.cons.inj t).1
          have cd := hd c (by rw [ec]; simp)
          omega
        have x0 : x = "0" ↔ (c = 48 ∧ r = []) := by
          constructor
          · intro z
            have t : x.cps.toList = [48] := by rw [z]; rfl
            rw [q, ec] at t
            simpa using t
          · rintro ⟨rfl, rfl⟩
            refine TL.ext_tl ?_
            show x.cps.toList = _
            rw [q, ec]
            rfl
        rw [ne_eq, x0]
        constructor
        · intro z
          exact ⟨fun c8 => Decidable.byContradiction fun z2 => z ⟨c8, fun z3 => z2 z3.2⟩, xm⟩
        · rintro ⟨z, -⟩ ⟨c8, z2⟩
          exact z2 ⟨c8, z c8⟩
      · have x0 : x ≠ "0" := fun z => by
          have t : x.cps.toList = [48] := by rw [z]; rfl
          rw [q] at t
          simp at t
        have xm : x = "-0" ↔ (c = 48 ∧ r = []) := by
          constructor
          · intro z
            have t : x.cps.toList = [45, 48] := by rw [z]; rfl
            rw [q, ec] at t
            simpa using t
          · rintro ⟨rfl, rfl⟩
            refine TL.ext_tl ?_
            show x.cps.toList = _
            rw [q, ec]
            rfl
        rw [ne_eq, ne_eq, xm]
        constructor
        · intro z
          exact ⟨fun c8 => absurd ⟨c8, x0⟩ z, fun z2 => z ⟨z2.1, x0⟩⟩
        · rintro ⟨z, z3⟩ ⟨c8, z2⟩
          exact z3 ⟨c8, z c8⟩
    by_cases k : (figs x).cps.toList[0]? = some 48 ∧ x ≠ "0"
    · rw [if_pos k, if_neg (fun z => key.mpr z k)]
    · rw [if_neg k, if_pos (key.mp k)]
--CUT
--MUT _law_numbers | _law_found
theorem nums_app : ∀ {xs ys : List Str} {ns : List Int}, nums xs = some ns → nums (xs ++ ys) = (nums ys).map (ns ++ ·)
  | [], ys, ns, h => by cases h; rw [List.nil_append]; cases nums ys <;> rfl
  | x :: xs, ys, ns, h => by
    unfold nums at h
    split at h
    · rename_i n ms e1 e2
      cases h
      rw [List.cons_append, nums, e1, nums_app (ys := ys) e2]
      cases nums ys <;> rfl
    · cases h
def sp_lnumbers : SpD := fun ds S Q _ => ∃ (d : D) (xs : List Str), ds = [d] ∧ lsOf S d = some (xs.map D.str) ∧ xs.length ≤ 1000000 ∧ (∀ x ∈ xs, x.length ≤ 1000000) ∧ (match nums xs with | some ns => ∀ l, S l = none → Q (.ref l) (sup S l (.lst (ns.map D.int))) | none => Q .non S)
--HINT _law_numbers | _law_figures | text
theorem sc__law_numbers : FnScope ["_law_words", "_law_found", "_law_word", "_law_figures"] ["_law_words"] (defScope s__law_numbers) := ⟨rfl, rfl, rfl, by decide +kernel, rfl, by decide +kernel, by decide +kernel⟩
theorem ok__law_numbers (G : Def K mg "_law_numbers" s__law_numbers ["_law_words"]) (T : Txt K mg) : Cal P w K mg base "_law_numbers" 1 ["_law_words"] sp_lnumbers := by
  refine G.calD sc__law_numbers (fun ds S Q E h => ?_) fun f cdv A outer s H E hr => ⟨_, (dpss_cons (dps_set (i := 1) sc__law_numbers.nd rfl (by first | exact Or.inl rfl | exact Or.inr rfl) (dpe_new (dpl_lst dpa_nil)))
    (dpss_cons (dps_for (passes_of rfl) rfl (dpi_lq (dv 0)) (dpg_name (vs := [2]) (i := 2) sc__law_numbers.nd rfl (by first | exact Or.inl rfl | exact Or.inr rfl) (by decide)) (dpss_cons (dps_set (i := 3) sc__law_numbers.nd rfl (by first | exact Or.inl rfl | exact Or.inr rfl) (dpe_ifE (dpt_cmp (op_eqA (hr.units)) lr_eqA (dpe_slX (dv 2) dpo_none (dpo_some dpe_int)) dpe_str (nomark _)) (dpe_slX (dv 2) (dpo_some dpe_int) dpo_none) (dv 2)))
    (dpss_cons (dps_if (dpw_pt (dpw_or (dpt_not (dpt_chain op_le op_le lr_cmp lr_cmp dpe_int (dpe_ba call_len lc_len rfl T.b_len bb_len (dpa_cons (dv 3) dpa_nil)) dpe_int)) (dpw_or1 (dpt_cmp (op_neA (hr.units)) lr_neA (dpe_sm PySem.F.slot_str_strip PySem.F.type_str_strip mt_stripChars lm_strip (dv 3) dpe_str) dpe_str (nomark _))))) (dpss_one (dps_ret dpe_non)) dpss_nil)
    (dpss_cons (dps_if (dpw_pt (dpw_or (dpt_cmp (op_neA (hr.units)) lr_neA (dpe_ta (DL.CallR.or call_str_int SkE.call_str_str) lc_strX rfl T.b_str bb_str (dpa_cons (dpe_ta (DL.CallR.or call_int1 call_int_str) lc_intX rfl T.b_int bb_int (dpa_cons (dv 3) dpa_nil)) dpa_nil)) (dv 3) (nomark _)) (dpw_or1 (dpt_cmp (op_eqA (hr.units)) lr_eqA (dv 2) dpe_str (nomark _))))) (dpss_one (dps_ret dpe_non)) dpss_nil)
    (dpss_one (dps_expr (dpe_bm PySem.F.plainAttrs_list PySem.F.slot_list_append PySem.F.type_list_append mt_append lm_append ty_list (dv 1) (dpa_cons (dpe_ta (DL.CallR.or call_int1 call_int_str) lc_intX rfl T.b_int bb_int (dpa_cons (dv 2) dpa_nil)) dpa_nil))))))))
    (dpss_one (dps_ret (dv 1))))), ?_⟩
  · obtain ⟨d, xs, rfl, _⟩ := h; rfl
  · rintro ds S Q ED ⟨d, xs, rfl, e1, l1, h1, h2⟩
    simp only [↓DL.wSeq, ↓DL.wSlT, ↓DL.wNo, ↓DL.wPart, ↓DL.dSlT, ↓DL.dCat, ↓DL.dListT, ↓DL.wFor, ↓DL.iR1, ↓DL.iR2, ↓DL.iTp, ↓DL.iLs, ↓DL.iNw, ↓DL.iLn, ↓DL.wNext, ↓DL.wIf, ↓DL.wRet, ↓DL.wRetN, ↓DL.wDrop, ↓DL.wAsg, ↓DL.gNm, ↓DL.wPar, ↓DL.wVar, ↓DL.wC, ↓DL.wOp, ↓DL.wUn, ↓DL.wTst, ↓DL.wChain, ↓DL.wAnd, ↓DL.wOr, ↓DL.wNot, ↓DL.wAndV, ↓DL.wOrV, ↓DL.wNotV, ↓DL.wIfE, ↓DL.wNil, ↓DL.wCons, ↓DL.wTup, ↓DL.wLst, ↓DL.wNew, ↓DL.wDer, ↓DL.wVL, ↓DL.wVLL, ↓DL.wALL, ↓DL.wCall, ↓DL.wIsa, ↓DL.wRaise, ↓DL.isB, ↓DL.dI0, ↓DL.dI, ↓DL.dU, ↓DL.dLen, ↓DL.dIx, ↓DL.gSubD, ↓DL.setD, ↓DL.wBM, ↓DL.isL, ↓DL.onL, ↓DL.dPopAt, ↓DL.dAppend, ↓DL.wIxV, ↓DL.wEqVL, ↓DL.wEqL, ↓DL.dEqS, ↓DL.dNeS, ↓DL.startD, List.map_cons, List.map_nil, List.length_cons, List.length_nil, List.cons_append, List.nil_append, List.replicate_succ, List.replicate_zero, List.getElem?_cons_zero, List.getElem?_cons_succ, List.set_cons_zero, List.set_cons_succ, Nat.reduceAdd, Nat.reduceSub, Nat.sub_self, ↓DL.kindD, ↓DL.dIsN, ↓DL.dNotN, ↓DL.isaB, String.reduceBEq, Bool.or_false, Bool.false_or, Bool.true_or, Bool.or_true, Bool.and_true, Bool.and_false, Bool.true_and, Bool.false_and, decide_true, decide_false, ↓DL.isNon, if_true, if_false, Bool.not_true, Bool.not_false, Bool.false_eq_true, reduceIte, true_and, and_true, ↓DL.dAddX, ↓DL.dMulX, ↓DL.dIxX, ↓DL.wSlX, ↓DL.dSlX, ↓DL.wSlL2, ↓DL.withL_rl, ↓DL.lsOf, ↓DL.wDerL, ↓DL.wFz, ↓DL.wFzR, ↓DL.frzD, ↓DL.wSide, ↓DL.wCatX, ↓DL.dEqA, ↓DL.scalEq, ↓DL.eqB, ↓DL.iLq, ↓DL.iSg, ↓DL.iEn, ↓DL.wM1, ↓DL.isStr, ↓DL.dJoin, ↓DL.dStrip, ↓DL.wSplit, ↓DL.dIntX, ↓DL.dInF, ↓DL.dInS, ↓DL.seqOf, ↓DL.wPar3, ↓DL.wFld, ↓DL.fldD, ↓DL.wSetF, ↓DL.setFD, ↓DL.wAugF, ↓DL.wMeth, ↓DL.recvD, ↓DL.wMake, ↓DL.fillP, ↓DL.wAsg2, ↓DL.gFldD, ↓DL.gStD, ↓DL.starV, ↓DL.gCs, ↓DL.gNl, ↓DL.gTp, Nat.add_zero, List.append_nil, List.zipWith_nil_left, List.zipWith_cons_cons, List.getD_cons_zero, ↓DL.wYes, reduceCtorEq, ↓DL.dEqX, ↓DL.dInD, DL.dataS_rl, DL.dataS_tup, DL.dataS_int, DL.dataS_str, DL.dataS_non, DL.dataD_nil, DL.dataD_ti, DL.dataD_li, ↓DL.isL2, ↓DL.dCountX, ↓DL.dIndexX, Option.isSome_some, ↓DL.dStrX]
    refine ⟨Nat.zero_le _, fun p hp => withL_of (lsOf_sup e1 hp) ?_⟩
    refine forW_ind (fun ds σ S' => ∃ (done todo : List Str) (ns : List Int) (c2 c3 : Option D), xs = done ++ todo ∧ nums done = some ns ∧ ds = todo.map D.str ∧ σ = [some d, some (.ref p), c2, c3] ∧ S' = sup S p (.lst (ns.map D.int))) ?_ ?_ ⟨[], xs, [], _, _, rfl, rfl, rfl, rfl, rfl⟩
    · rintro σ S' ⟨done, todo, ns, c2, c3, ep, en, et, rfl, rfl⟩
      cases todo with
      | cons t todo => cases et
      | nil =>
        rw [List.append_nil] at ep
        rw [ep, en] at h2
        refine ⟨lsOf_sup e1 hp, ?_⟩
        simp only [↓DL.wSeq, ↓DL.wSlT, ↓DL.wNo, ↓DL.wPart, ↓DL.dSlT, ↓DL.dCat, ↓DL.dListT, ↓DL.wFor, ↓DL.iR1, ↓DL.iR2, ↓DL.iTp, ↓DL.iLs, ↓DL.iNw, ↓DL.iLn, ↓DL.wNext, ↓DL.wIf, ↓DL.wRet, ↓DL.wRetN, ↓DL.wDrop, ↓DL.wAsg, ↓DL.gNm, ↓DL.wPar, ↓DL.wVar, ↓DL.wC, ↓DL.wOp, ↓DL.wUn, ↓DL.wTst, ↓DL.wChain, ↓DL.wAnd, ↓DL.wOr, ↓DL.wNot, ↓DL.wAndV, ↓DL.wOrV, ↓DL.wNotV, ↓DL.wIfE, ↓DL.wNil, ↓DL.wCons, ↓DL.wTup, ↓DL.wLst, ↓DL.wNew, ↓DL.wDer, ↓DL.wVL, ↓DL.wVLL, ↓DL.wALL, ↓DL.wCall, ↓DL.wIsa, ↓DL.wRaise, ↓DL.isB, ↓DL.dI0, ↓DL.dI, ↓DL.dU, ↓DL.dLen, ↓DL.dIx, ↓DL.gSubD, ↓DL.setD, ↓DL.wBM, ↓DL.isL, ↓DL.onL, ↓DL.dPopAt, ↓DL.dAppend, ↓DL.wIxV, ↓DL.wEqVL, ↓DL.wEqL, ↓DL.dEqS, ↓DL.dNeS, ↓DL.startD, List.map_cons, List.map_nil, List.length_cons, List.length_nil, List.cons_append, List.nil_append, List.replicate_succ, List.replicate_zero, List.getElem?_cons_zero, List.getElem?_cons_succ, List.set_cons_zero, List.set_cons_succ, Nat.reduceAdd, Nat.reduceSub, Nat.sub_self, ↓DL.kindD, ↓DL.dIsN, ↓DL.dNotN, ↓DL.isaB, String.reduceBEq, Bool.or_false, Bool.false_or, Bool.true_or, Bool.or_true, Bool.and_true, Bool.and_false, Bool.true_and, Bool.false_and, decide_true, decide_false, ↓DL.isNon, if_true, if_false, Bool.not_true, Bool.not_false, Bool.false_eq_true, reduceIte, true_and, and_true, ↓DL.dAddX, ↓DL.dMulX, ↓DL.dIxX, ↓DL.wSlX, ↓DL.dSlX, ↓DL.wSlL2, ↓DL.withL_rl, ↓DL.lsOf, ↓DL.wDerL, ↓DL.wFz, ↓DL.wFzR, ↓DL.frzD, ↓DL.wSide, ↓DL.wCatX, ↓DL.dEqA, ↓DL.scalEq, ↓DL.eqB, ↓DL.iLq, ↓DL.iSg, ↓DL.iEn, ↓DL.wM1, ↓DL.isStr, ↓DL.dJoin, ↓DL.dStrip, ↓DL.wSplit, ↓DL.dIntX, ↓DL.dInF, ↓DL.dInS, ↓DL.seqOf, ↓DL.wPar3, ↓DL.wFld, ↓DL.fldD, ↓DL.wSetF, ↓DL.setFD, ↓DL.wAugF, ↓DL.wMeth, ↓DL.recvD, ↓DL.wMake, ↓DL.fillP, ↓DL.wAsg2, ↓DL.gFldD, ↓DL.gStD, ↓DL.starV, ↓DL.gCs, ↓DL.gNl, ↓DL.gTp, Nat.add_zero, List.append_nil, List.zipWith_nil_left, List.zipWith_cons_cons, List.getD_cons_zero, ↓DL.wYes, reduceCtorEq, ↓DL.dEqX, ↓DL.dInD, DL.dataS_rl, DL.dataS_tup, DL.dataS_int, DL.dataS_str, DL.dataS_non, DL.dataD_nil, DL.dataD_ti, DL.dataD_li, ↓DL.isL2, ↓DL.dCountX, ↓DL.dIndexX, Option.isSome_some, ↓DL.dStrX]
        exact ⟨_, Le.refl _, h2 p hp⟩
    · rintro d2 ds σ S' ⟨done, todo, ns, c2, c3, ep, en, et, rfl, rfl⟩ nx
      cases todo with
      | nil => cases et
      | cons t todo =>
        cases et
        refine ⟨lsOf_sup e1 hp, ?_⟩
        generalize hst : forW _ _ _ _ _ = NX at nx ⊢
        clear hst
        have lt := h1 t (by rw [ep]; simp)
        have ln : ns.length ≤ 1000000 := by
          have := (nums_map en).2
          have := congrArg List.length ep
          rw [List.length_append] at this
          omega
        have none_ : wnum t = none → Dr Q D.non (sup S p (.lst (ns.map D.int))) := fun z => by
          have : nums xs = none := by
            rw [ep, nums_app en, nums, z]
            rfl
          rw [this] at h2
          exact ⟨_, Le.sup (Le.refl S) hp, h2⟩
        have some_ : ∀ n, wnum t = some n → NX [some d, some (.ref p), some (.str t), some (.str (figs t))] (sup S p (.lst (ns.map D.int ++ [.int n]))) := fun n z => by
          refine nx _ _ ⟨done ++ [t], todo, ns ++ [n], _, _, by rw [ep]; simp, ?_, rfl, rfl, by rw [List.map_append]; rfl⟩
          rw [nums_app en, nums, z]
          rfl
        have lf : (figs t).length ≤ 1000000 := by
          rcases figs_or t with q | q
          · rw [← q]; exact lt
          · have e := congrArg List.length q
            rw [List.length_cons] at e
            have a1 : t.length = t.cps.toList.length := Array.length_toList.symm
            have a2 : (figs t).length = (figs t).cps.toList.length := Array.length_toList.symm
            omega
        rw [gNm, DL.wSeq_nx]
        refine nx_join (fun σ S' => σ = [some d, some (.ref p), some (.str t), some (.str (figs t))] ∧ S' = sup S p (.lst (ns.map D.int))) ?_ ?_
        · rintro σ S' ⟨rfl, rfl⟩
          unfold Nx
          simp only [↓DL.wSeq_nx, ↓DL.wSlT, ↓DL.wNo, ↓DL.wPart, ↓DL.dSlT, ↓DL.dCat, ↓DL.dListT, ↓DL.wFor, ↓DL.iR1, ↓DL.iR2, ↓DL.iTp, ↓DL.iLs, ↓DL.iNw, ↓DL.iLn, ↓DL.wNext, ↓DL.wIf, ↓DL.wRet, ↓DL.wRetN, ↓DL.wDrop, ↓DL.wAsg, ↓DL.gNm, ↓DL.wPar, ↓DL.wVar, ↓DL.wC, ↓DL.wOp, ↓DL.wUn, ↓DL.wTst, ↓DL.wChain, ↓DL.wAnd, ↓DL.wOr, ↓DL.wNot, ↓DL.wAndV, ↓DL.wOrV, ↓DL.wNotV, ↓DL.wIfE, ↓DL.wNil, ↓DL.wCons, ↓DL.wTup, ↓DL.wLst, ↓DL.wNew, ↓DL.wDer, ↓DL.wVL, ↓DL.wVLL, ↓DL.wALL, ↓DL.wCall, ↓DL.wIsa, ↓DL.wRaise, ↓DL.isB, ↓DL.dI0, ↓DL.dI, ↓DL.dU, ↓DL.dLen, ↓DL.dIx, ↓DL.gSubD, ↓DL.setD, ↓DL.wBM, ↓DL.isL, ↓DL.onL, ↓DL.dPopAt, ↓DL.dAppend, ↓DL.wIxV, ↓DL.wEqVL, ↓DL.wEqL, ↓DL.dEqS, ↓DL.dNeS, ↓DL.startD, List.map_cons, List.map_nil, List.length_cons, List.length_nil, List.cons_append, List.nil_append, List.replicate_succ, List.replicate_zero, List.getElem?_cons_zero, List.getElem?_cons_succ, List.set_cons_zero, List.set_cons_succ, Nat.reduceAdd, Nat.reduceSub, Nat.sub_self, ↓DL.kindD, ↓DL.dIsN, ↓DL.dNotN, ↓DL.isaB, String.reduceBEq, Bool.or_false, Bool.false_or, Bool.true_or, Bool.or_true, Bool.and_true, Bool.and_false, Bool.true_and, Bool.false_and, decide_true, decide_false, ↓DL.isNon, if_true, if_false, Bool.not_true, Bool.not_false, Bool.false_eq_true, reduceIte, true_and, and_true, ↓DL.dAddX, ↓DL.dMulX, ↓DL.dIxX, ↓DL.wSlX, ↓DL.dSlX, ↓DL.wSlL2, ↓DL.withL_rl, ↓DL.lsOf, ↓DL.wDerL, ↓DL.wFz, ↓DL.wFzR, ↓DL.frzD, ↓DL.wSide, ↓DL.wCatX, ↓DL.dEqA, ↓DL.scalEq, ↓DL.eqB, ↓DL.iLq, ↓DL.iSg, ↓DL.iEn, ↓DL.wM1, ↓DL.isStr, ↓DL.dJoin, ↓DL.dStrip, ↓DL.wSplit, ↓DL.dIntX, ↓DL.dInF, ↓DL.dInS, ↓DL.seqOf, ↓DL.wPar3, ↓DL.wFld, ↓DL.fldD, ↓DL.wSetF, ↓DL.setFD, ↓DL.wAugF, ↓DL.wMeth, ↓DL.recvD, ↓DL.wMake, ↓DL.fillP, ↓DL.wAsg2, ↓DL.gFldD, ↓DL.gStD, ↓DL.starV, ↓DL.gCs, ↓DL.gNl, ↓DL.gTp, Nat.add_zero, List.append_nil, List.zipWith_nil_left, List.zipWith_cons_cons, List.getD_cons_zero, ↓DL.wYes, reduceCtorEq, ↓DL.dEqX, ↓DL.dInD, DL.dataS_rl, DL.dataS_tup, DL.dataS_int, DL.dataS_str, DL.dataS_non, DL.dataD_nil, DL.dataD_ti, DL.dataD_li, ↓DL.isL2, ↓DL.dCountX, ↓DL.dIndexX, Option.isSome_some, ↓DL.dStrX]
          (repeat refine And.intro (by first | exact True.intro | assumption | omega | (rw [sizeLine_eq]; omega) | rfl | (simp; omega) | (simp; rw [sizeLine_eq]; omega)) ?_)
          by_cases q1 : 1 ≤ (figs t).length
          · rw [if_pos (by simp; omega)]
            by_cases q4 : (figs t).length ≤ 4
            · rw [if_neg (by simp; omega)]
              (repeat refine And.intro (by first | exact True.intro | assumption | omega | (rw [sizeLine_eq]; omega) | rfl | (simp; omega) | (simp; rw [sizeLine_eq]; omega)) ?_)
              cases al : (figs t).cps.toList.all isFig with
              | false =>
                rw [if_pos (by simp; rw [strip_fig, al]; simp)]
                (repeat refine And.intro (by first | exact True.intro | assumption | omega | (rw [sizeLine_eq]; omega) | rfl | (simp; omega) | (simp; rw [sizeLine_eq]; omega)) ?_)
                exact none_ (word_none (fun z => by rw [al] at z; exact Bool.noConfusion z.2.2))
              | true =>
                rw [if_neg (by simp; rw [strip_fig, al])]
                obtain ⟨v, n, ev, en2, lv, lt2, ew⟩ := word_some q1 q4 al
                unfold Nx
                simp only [↓DL.wSeq_nx, ↓DL.wSlT, ↓DL.wNo, ↓DL.wPart, ↓DL.dSlT, ↓DL.dCat, ↓DL.dListT, ↓DL.wFor, ↓DL.iR1, ↓DL.iR2, ↓DL.iTp, ↓DL.iLs, ↓DL.iNw, ↓DL.iLn, ↓DL.wNext, ↓DL.wIf, ↓DL.wRet, ↓DL.wRetN, ↓DL.wDrop, ↓DL.wAsg, ↓DL.gNm, ↓DL.wPar, ↓DL.wVar, ↓DL.wC, ↓DL.wOp, ↓DL.wUn, ↓DL.wTst, ↓DL.wChain, ↓DL.wAnd, ↓DL.wOr, ↓DL.wNot, ↓DL.wAndV, ↓DL.wOrV, ↓DL.wNotV, ↓DL.wIfE, ↓DL.wNil, ↓DL.wCons, ↓DL.wTup, ↓DL.wLst, ↓DL.wNew, ↓DL.wDer, ↓DL.wVL, ↓DL.wVLL, ↓DL.wALL, ↓DL.wCall, ↓DL.wIsa, ↓DL.wRaise, ↓DL.isB, ↓DL.dI0, ↓DL.dI, ↓DL.dU, ↓DL.dLen, ↓DL.dIx, ↓DL.gSubD, ↓DL.setD, ↓DL.wBM, ↓DL.isL, ↓DL.onL, ↓DL.dPopAt, ↓DL.dAppend, ↓DL.wIxV, ↓DL.wEqVL, ↓DL.wEqL, ↓DL.dEqS, ↓DL.dNeS, ↓DL.startD, List.map_cons, List.map_nil, List.length_cons, List.length_nil, List.cons_append, List.nil_append, List.replicate_succ, List.replicate_zero, List.getElem?_cons_zero, List.getElem?_cons_succ, List.set_cons_zero, List.set_cons_succ, Nat.reduceAdd, Nat.reduceSub, Nat.sub_self, ↓DL.kindD, ↓DL.dIsN, ↓DL.dNotN, ↓DL.isaB, String.reduceBEq, Bool.or_false, Bool.false_or, Bool.true_or, Bool.or_true, Bool.and_true, Bool.and_false, Bool.true_and, Bool.false_and, decide_true, decide_false, ↓DL.isNon, if_true, if_false, Bool.not_true, Bool.not_false, Bool.false_eq_true, reduceIte, true_and, and_true, ↓DL.dAddX, ↓DL.dMulX, ↓DL.dIxX, ↓DL.wSlX, ↓DL.dSlX, ↓DL.wSlL2, ↓DL.withL_rl, ↓DL.lsOf, ↓DL.wDerL, ↓DL.wFz, ↓DL.wFzR, ↓DL.frzD, ↓DL.wSide, ↓DL.wCatX, ↓DL.dEqA, ↓DL.scalEq, ↓DL.eqB, ↓DL.iLq, ↓DL.iSg, ↓DL.iEn, ↓DL.wM1, ↓DL.isStr, ↓DL.dJoin, ↓DL.dStrip, ↓DL.wSplit, ↓DL.dIntX, ↓DL.dInF, ↓DL.dInS, ↓DL.seqOf, ↓DL.wPar3, ↓DL.wFld, ↓DL.fldD, ↓DL.wSetF, ↓DL.setFD, ↓DL.wAugF, ↓DL.wMeth, ↓DL.recvD, ↓DL.wMake, ↓DL.fillP, ↓DL.wAsg2, ↓DL.gFldD, ↓DL.gStD, ↓DL.starV, ↓DL.gCs, ↓DL.gNl, ↓DL.gTp, Nat.add_zero, List.append_nil, List.zipWith_nil_left, List.zipWith_cons_cons, List.getD_cons_zero, ↓DL.wYes, reduceCtorEq, ↓DL.dEqX, ↓DL.dInD, DL.dataS_rl, DL.dataS_tup, DL.dataS_int, DL.dataS_str, DL.dataS_non, DL.dataD_nil, DL.dataD_ti, DL.dataD_li, ↓DL.isL2, ↓DL.dCountX, ↓DL.dIndexX, Option.isSome_some, ↓DL.dStrX, ev, en2]
                (repeat refine And.intro (by first | exact True.intro | assumption | omega | (rw [sizeLine_eq]; omega) | rfl | (simp; omega) | (simp; rw [sizeLine_eq]; omega)) ?_)
                have ev2 : ((toString v : String) : Str) = nS v := rfl
                rw [ev2]
                by_cases g : nS v = figs t ∧ t ≠ "-0"
                · rw [if_pos g] at ew
                  rw [if_neg (by simp [g.1]), if_neg (by simp [g.2])]
                  unfold Nx
                  simp only [↓DL.wSeq, ↓DL.wSlT, ↓DL.wNo, ↓DL.wPart, ↓DL.dSlT, ↓DL.dCat, ↓DL.dListT, ↓DL.wFor, ↓DL.iR1, ↓DL.iR2, ↓DL.iTp, ↓DL.iLs, ↓DL.iNw, ↓DL.iLn, ↓DL.wNext, ↓DL.wIf, ↓DL.wRet, ↓DL.wRetN, ↓DL.wDrop, ↓DL.wAsg, ↓DL.gNm, ↓DL.wPar, ↓DL.wVar, ↓DL.wC, ↓DL.wOp, ↓DL.wUn, ↓DL.wTst, ↓DL.wChain, ↓DL.wAnd, ↓DL.wOr, ↓DL.wNot, ↓DL.wAndV, ↓DL.wOrV, ↓DL.wNotV, ↓DL.wIfE, ↓DL.wNil, ↓DL.wCons, ↓DL.wTup, ↓DL.wLst, ↓DL.wNew, ↓DL.wDer, ↓DL.wVL, ↓DL.wVLL, ↓DL.wALL, ↓DL.wCall, ↓DL.wIsa, ↓DL.wRaise, ↓DL.isB, ↓DL.dI0, ↓DL.dI, ↓DL.dU, ↓DL.dLen, ↓DL.dIx, ↓DL.gSubD, ↓DL.setD, ↓DL.wBM, ↓DL.isL, ↓DL.onL, ↓DL.dPopAt, ↓DL.dAppend, ↓DL.wIxV, ↓DL.wEqVL, ↓DL.wEqL, ↓DL.dEqS, ↓DL.dNeS, ↓DL.startD, List.map_cons, List.map_nil, List.length_cons, List.length_nil, List.cons_append, List.nil_append, List.replicate_succ, List.replicate_zero, List.getElem?_cons_zero, List.getElem?_cons_succ, List.set_cons_zero, List.set_cons_succ, Nat.reduceAdd, Nat.reduceSub, Nat.sub_self, ↓DL.kindD, ↓DL.dIsN, ↓DL.dNotN, ↓DL.isaB, String.reduceBEq, Bool.or_false, Bool.false_or, Bool.true_or, Bool.or_true, Bool.and_true, Bool.and_false, Bool.true_and, Bool.false_and, decide_true, decide_false, ↓DL.isNon, if_true, if_false, Bool.not_true, Bool.not_false, Bool.false_eq_true, reduceIte, true_and, and_true, ↓DL.dAddX, ↓DL.dMulX, ↓DL.dIxX, ↓DL.wSlX, ↓DL.dSlX, ↓DL.wSlL2, ↓DL.withL_rl, ↓DL.lsOf, ↓DL.wDerL, ↓DL.wFz, ↓DL.wFzR, ↓DL.frzD, ↓DL.wSide, ↓DL.wCatX, ↓DL.dEqA, ↓DL.scalEq, ↓DL.eqB, ↓DL.iLq, ↓DL.iSg, ↓DL.iEn, ↓DL.wM1, ↓DL.isStr, ↓DL.dJoin, ↓DL.dStrip, ↓DL.wSplit, ↓DL.dIntX, ↓DL.dInF, ↓DL.dInS, ↓DL.seqOf, ↓DL.wPar3, ↓DL.wFld, ↓DL.fldD, ↓DL.wSetF, ↓DL.setFD, ↓DL.wAugF, ↓DL.wMeth, ↓DL.recvD, ↓DL.wMake, ↓DL.fillP, ↓DL.wAsg2, ↓DL.gFldD, ↓DL.gStD, ↓DL.starV, ↓DL.gCs, ↓DL.gNl, ↓DL.gTp, Nat.add_zero, List.append_nil, List.zipWith_nil_left, List.zipWith_cons_cons, List.getD_cons_zero, ↓DL.wYes, reduceCtorEq, ↓DL.dEqX, ↓DL.dInD, DL.dataS_rl, DL.dataS_tup, DL.dataS_int, DL.dataS_str, DL.dataS_non, DL.dataD_nil, DL.dataD_ti, DL.dataD_li, ↓DL.isL2, ↓DL.dCountX, ↓DL.dIndexX, Option.isSome_some, ↓DL.dStrX, sup_same, en2]
                  (repeat refine And.intro (by first | exact True.intro | assumption | omega | (rw [sizeLine_eq]; omega) | rfl | (simp; omega) | (simp; rw [sizeLine_eq]; omega)) ?_)
                  rw [sup_sup]
                  exact some_ n ew
                · rw [if_neg g] at ew
                  by_cases g2 : nS v = figs t
                  · have g3 : t = "-0" := Decidable.byContradiction fun z => g ⟨g2, z⟩
                    rw [if_neg (by simp [g2]), if_pos (by simp [g3])]
                    exact none_ ew
                  · rw [if_pos (by simp [g2])]
                    exact none_ ew
            · rw [if_pos (by simp; omega)]
              (repeat refine And.intro (by first | exact True.intro | assumption | omega | (rw [sizeLine_eq]; omega) | rfl | (simp; omega) | (simp; rw [sizeLine_eq]; omega)) ?_)
              exact none_ (word_none (fun z => q4 z.2.1))
          · rw [if_neg (by simp; omega)]
            (repeat refine And.intro (by first | exact True.intro | assumption | omega | (rw [sizeLine_eq]; omega) | rfl | (simp; omega) | (simp; rw [sizeLine_eq]; omega)) ?_)
            exact none_ (word_none (fun z => q1 z.1))
        · intro NX2 hn
          unfold figs at hn
          simp only [↓DL.wSeq_nx, ↓DL.wSlT, ↓DL.wNo, ↓DL.wPart, ↓DL.dSlT, ↓DL.dCat, ↓DL.dListT, ↓DL.wFor, ↓DL.iR1, ↓DL.iR2, ↓DL.iTp, ↓DL.iLs, ↓DL.iNw, ↓DL.iLn, ↓DL.wNext, ↓DL.wIf, ↓DL.wRet, ↓DL.wRetN, ↓DL.wDrop, ↓DL.wAsg, ↓DL.gNm, ↓DL.wPar, ↓DL.wVar, ↓DL.wC, ↓DL.wOp, ↓DL.wUn, ↓DL.wTst, ↓DL.wChain, ↓DL.wAnd, ↓DL.wOr, ↓DL.wNot, ↓DL.wAndV, ↓DL.wOrV, ↓DL.wNotV, ↓DL.wIfE, ↓DL.wNil, ↓DL.wCons, ↓DL.wTup, ↓DL.wLst, ↓DL.wNew, ↓DL.wDer, ↓DL.wVL, ↓DL.wVLL, ↓DL.wALL, ↓DL.wCall, ↓DL.wIsa, ↓DL.wRaise, ↓DL.isB, ↓DL.dI0, ↓DL.dI, ↓DL.dU, ↓DL.dLen, ↓DL.dIx, ↓DL.gSubD, ↓DL.setD, ↓DL.wBM, ↓DL.isL, ↓DL.onL, ↓DL.dPopAt, ↓DL.dAppend, ↓DL.wIxV, ↓DL.wEqVL, ↓DL.wEqL, ↓DL.dEqS, ↓DL.dNeS, ↓DL.startD, List.map_cons, List.map_nil, List.length_cons, List.length_nil, List.cons_append, List.nil_append, List.replicate_succ, List.replicate_zero, List.getElem?_cons_zero, List.getElem?_cons_succ, List.set_cons_zero, List.set_cons_succ, Nat.reduceAdd, Nat.reduceSub, Nat.sub_self, ↓DL.kindD, ↓DL.dIsN, ↓DL.dNotN, ↓DL.isaB, String.reduceBEq, Bool.or_false, Bool.false_or, Bool.true_or, Bool.or_true, Bool.and_true, Bool.and_false, Bool.true_and, Bool.false_and, decide_true, decide_false, ↓DL.isNon, if_true, if_false, Bool.not_true, Bool.not_false, Bool.false_eq_true, reduceIte, true_and, and_true, ↓DL.dAddX, ↓DL.dMulX, ↓DL.dIxX, ↓DL.wSlX, ↓DL.dSlX, ↓DL.wSlL2, ↓DL.withL_rl, ↓DL.lsOf, ↓DL.wDerL, ↓DL.wFz, ↓DL.wFzR, ↓DL.frzD, ↓DL.wSide, ↓DL.wCatX, ↓DL.dEqA, ↓DL.scalEq, ↓DL.eqB, ↓DL.iLq, ↓DL.iSg, ↓DL.iEn, ↓DL.wM1, ↓DL.isStr, ↓DL.dJoin, ↓DL.dStrip, ↓DL.wSplit, ↓DL.dIntX, ↓DL.dInF, ↓DL.dInS, ↓DL.seqOf, ↓DL.wPar3, ↓DL.wFld, ↓DL.fldD, ↓DL.wSetF, ↓DL.setFD, ↓DL.wAugF, ↓DL.wMeth, ↓DL.recvD, ↓DL.wMake, ↓DL.fillP, ↓DL.wAsg2, ↓DL.gFldD, ↓DL.gStD, ↓DL.starV, ↓DL.gCs, ↓DL.gNl, ↓DL.gTp, Nat.add_zero, List.append_nil, List.zipWith_nil_left, List.zipWith_cons_cons, List.getD_cons_zero, ↓DL.wYes, reduceCtorEq, ↓DL.dEqX, ↓DL.dInD, DL.dataS_rl, DL.dataS_tup, DL.dataS_int, DL.dataS_str, DL.dataS_non, DL.dataD_nil, DL.dataD_ti, DL.dataD_li, ↓DL.isL2, ↓DL.dCountX, ↓DL.dIndexX, Option.isSome_some, ↓DL.dStrX]
          refine ⟨by rw [sizeLine_eq]; omega, ?_⟩
          by_cases q : cutS t none (some 1) = "-"
          · rw [if_pos q] at hn
            rw [if_pos (by simpa using q)]
            exact ⟨by rw [sizeLine_eq]; omega, hn _ _ ⟨rfl, rfl⟩⟩
          · rw [if_neg q] at hn
            rw [if_neg (by simpa using q)]
            exact hn _ _ ⟨rfl, rfl⟩
--CUT
def tokD : List Int ⊕ Bool → D | .inl ns => .tup (ns.map D.int) | .inr true => .tup [.str "BadText", .int 0] | .inr false => .tup [.str "BadToken", .int 0]
def sp_ltoken : SpD := fun ds S Q _ => ∃ x : Str, ds = [.str x] ∧ x.length ≤ 100000 ∧ Q (tokD (rdTok x)) S
--HINT _law_token | _law_numbers(_law_text.split(' ')) | frz
theorem sc__law_token : FnScope ["_law_text", "_law_found", "_law_good", "_law_count"] ["_law_text"] (defScope s__law_token) := ⟨rfl, rfl, rfl, by decide +kernel, rfl, by decide +kernel, by decide +kernel⟩
theorem ok__law_token (G : Def K mg "_law_token" s__law_token ["_law_text"]) (T : Txt K mg) (c__law_numbers : Cal P w K mg base "_law_numbers" 1 ["_law_words"] sp_lnumbers) : Cal P w K mg base "_law_token" 2 ["_law_text"] sp_ltoken := by
  refine G.calD sc__law_token (fun ds S Q E h => ?_) fun f cdv A outer s H E hr => ⟨_, (dpss_cons (dps_set (i := 1) sc__law_token.nd rfl (by first | exact Or.inl rfl | exact Or.inr rfl) (dpe_fzR (dpe_cal c__law_numbers hr (by first | decide | omega) rfl (takes_of rfl rfl rfl rfl) (dpa_cons (dpe_fz (dpl_split (dv 0) dpe_str)) dpa_nil))))
    (dpss_cons (dps_if (dpt_cmp op_isN lr_isN (dv 1) dpe_non (nomark _)) (dpss_one (dps_ret (dpe_tup (dpa_cons dpe_str (dpa_cons dpe_int dpa_nil))))) dpss_nil)
    (dpss_cons (dps_set (i := 2) sc__law_token.nd rfl (by first | exact Or.inl rfl | exact Or.inr rfl) (dpe_and (dpe_chain op_le op_le lr_cmp lr_cmp dpe_int (dpe_ba call_len lc_len rfl T.b_len bb_len (dpa_cons (dv 1) dpa_nil)) dpe_int) (dpe_one (dpe_cmp (op_eqA (hr.units)) lr_eqA (dpe_fz (dpl_lc (own := [("_law_count", 3)]) rfl sc__law_token.nd (dpi_lq (dv 1)) (blkOk_by (own := [("_law_count", 3)]) (by rfl)) (fun _ _ _ _ _ => (dpg_name (vs := [3]) (i := 3) sc__law_token.nd rfl (by first | exact Or.inl rfl | exact Or.inr rfl) (by decide))) (fun _ _ _ _ _ => (dpts_one (dpt_not (dpt_chain op_le op_le lr_cmp lr_cmp dpe_int (dv 3) dpe_int)))) (fun _ _ _ _ _ => (dv 3)))) (dpe_fz (dpl_lst dpa_nil)) (nomark _)))))
    (dpss_one (dps_ret (dpe_ifE (dpt_val (dv 2)) (dpe_tv call_tuple_of lc_tup rfl T.b_tuple bb_tuple (dpv_ls (dv 1))) (dpe_tup (dpa_cons dpe_str (dpa_cons dpe_int dpa_nil))))))))), ?_⟩
  · obtain ⟨x, rfl, _⟩ := h; rfl
  · rintro ds S Q ED ⟨x, rfl, l1, h2⟩
    have sl := split_len x sepB
    simp only [↓DL.wSeq_nx, ↓DL.wSlT, ↓DL.wNo, ↓DL.wPart, ↓DL.dSlT, ↓DL.dCat, ↓DL.dListT, ↓DL.wFor, ↓DL.iR1, ↓DL.iR2, ↓DL.iTp, ↓DL.iLs, ↓DL.iNw, ↓DL.iLn, ↓DL.wNext, ↓DL.wIf, ↓DL.wRet, ↓DL.wRetN, ↓DL.wDrop, ↓DL.wAsg, ↓DL.gNm, ↓DL.wPar, ↓DL.wVar, ↓DL.wC, ↓DL.wOp, ↓DL.wUn, ↓DL.wTst, ↓DL.wChain, ↓DL.wAnd, ↓DL.wOr, ↓DL.wNot, ↓DL.wAndV, ↓DL.wOrV, ↓DL.wNotV, ↓DL.wIfE, ↓DL.wNil, ↓DL.wCons, ↓DL.wTup, ↓DL.wLst, ↓DL.wNew, ↓DL.wDer, ↓DL.wVL, ↓DL.wVLL, ↓DL.wALL, ↓DL.wCall, ↓DL.wIsa, ↓DL.wRaise, ↓DL.isB, ↓DL.dI0, ↓DL.dI, ↓DL.dU, ↓DL.dLen, ↓DL.dIx, ↓DL.gSubD, ↓DL.setD, ↓DL.wBM, ↓DL.isL, ↓DL.onL, ↓DL.dPopAt, ↓DL.dAppend, ↓DL.wIxV, ↓DL.wEqVL, ↓DL.wEqL, ↓DL.dEqS, ↓DL.dNeS, ↓DL.startD, List.map_cons, List.map_nil, List.length_cons, List.length_nil, List.cons_append, List.nil_append, List.replicate_succ, List.replicate_zero, List.getElem?_cons_zero, List.getElem?_cons_succ, List.set_cons_zero, List.set_cons_succ, Nat.reduceAdd, Nat.reduceSub, Nat.sub_self, ↓DL.kindD, ↓DL.dIsN, ↓DL.dNotN, ↓DL.isaB, String.reduceBEq, Bool.or_false, Bool.false_or, Bool.true_or, Bool.or_true, Bool.and_true, Bool.and_false, Bool.true_and, Bool.false_and, decide_true, decide_false, ↓DL.isNon, if_true, if_false, Bool.not_true, Bool.not_false, Bool.false_eq_true, reduceIte, true_and, and_true, ↓DL.dAddX, ↓DL.dMulX, ↓DL.dIxX, ↓DL.wSlX, ↓DL.dSlX, ↓DL.wSlL2, ↓DL.withL_rl, ↓DL.lsOf, ↓DL.wDerL, ↓DL.wFz, ↓DL.wFzR, ↓DL.wSide, ↓DL.wCatX, ↓DL.dEqA, ↓DL.scalEq, ↓DL.eqB, ↓DL.iLq, ↓DL.iSg, ↓DL.iEn, ↓DL.wM1, ↓DL.isStr, ↓DL.dJoin, ↓DL.dStrip, ↓DL.wSplit, ↓DL.dIntX, ↓DL.dInF, ↓DL.dInS, ↓DL.seqOf, ↓DL.wPar3, ↓DL.wFld, ↓DL.fldD, ↓DL.wSetF, ↓DL.setFD, ↓DL.wAugF, ↓DL.wMeth, ↓DL.recvD, ↓DL.wMake, ↓DL.fillP, ↓DL.wAsg2, ↓DL.gFldD, ↓DL.gStD, ↓DL.starV, ↓DL.gCs, ↓DL.gNl, ↓DL.gTp, Nat.add_zero, List.append_nil, List.zipWith_nil_left, List.zipWith_cons_cons, List.getD_cons_zero, ↓DL.wYes, reduceCtorEq, ↓DL.dEqX, ↓DL.dInD, DL.dataS_rl, DL.dataS_tup, DL.dataS_int, DL.dataS_str, DL.dataS_non, DL.dataD_nil, DL.dataD_ti, DL.dataD_li, ↓DL.isL2, ↓DL.dCountX, ↓DL.dIndexX, Option.isSome_some, ↓DL.dStrX, sp_lnumbers]
    refine ⟨⟨by decide, by rw [sizeLine_eq]; omega⟩, _, Txt.split x " ", rfl, rfl, by omega, fun p hp => by have := split_mem sepB hp; omega, ?_⟩
    unfold rdTok at h2
    cases e : nums (Txt.split x " ") with
    | none =>
      rw [e] at h2
      simp only [↓DL.wSeq, ↓DL.wSlT, ↓DL.wNo, ↓DL.wPart, ↓DL.dSlT, ↓DL.dCat, ↓DL.dListT, ↓DL.wFor, ↓DL.iR1, ↓DL.iR2, ↓DL.iTp, ↓DL.iLs, ↓DL.iNw, ↓DL.iLn, ↓DL.wNext, ↓DL.wIf, ↓DL.wRet, ↓DL.wRetN, ↓DL.wDrop, ↓DL.wAsg, ↓DL.gNm, ↓DL.wPar, ↓DL.wVar, ↓DL.wC, ↓DL.wOp, ↓DL.wUn, ↓DL.wTst, ↓DL.wChain, ↓DL.wAnd, ↓DL.wOr, ↓DL.wNot, ↓DL.wAndV, ↓DL.wOrV, ↓DL.wNotV, ↓DL.wIfE, ↓DL.wNil, ↓DL.wCons, ↓DL.wTup, ↓DL.wLst, ↓DL.wNew, ↓DL.wDer, ↓DL.wVL, ↓DL.wVLL, ↓DL.wALL, ↓DL.wCall, ↓DL.wIsa, ↓DL.wRaise, ↓DL.isB, ↓DL.dI0, ↓DL.dI, ↓DL.dU, ↓DL.dLen, ↓DL.dIx, ↓DL.gSubD, ↓DL.setD, ↓DL.wBM, ↓DL.isL, ↓DL.onL, ↓DL.dPopAt, ↓DL.dAppend, ↓DL.wIxV, ↓DL.wEqVL, ↓DL.wEqL, ↓DL.dEqS, ↓DL.dNeS, ↓DL.startD, List.map_cons, List.map_nil, List.length_cons, List.length_nil, List.cons_append, List.nil_append, List.replicate_succ, List.replicate_zero, List.getElem?_cons_zero, List.getElem?_cons_succ, List.set_cons_zero, List.set_cons_succ, Nat.reduceAdd, Nat.reduceSub, Nat.sub_self, ↓DL.kindD, ↓DL.dIsN, ↓DL.dNotN, ↓DL.isaB, String.reduceBEq, Bool.or_false, Bool.false_or, Bool.true_or, Bool.or_true, Bool.and_true, Bool.and_false, Bool.true_and, Bool.false_and, decide_true, decide_false, ↓DL.isNon, if_true, if_false, Bool.not_true, Bool.not_false, Bool.false_eq_true, reduceIte, true_and, and_true, ↓DL.dAddX, ↓DL.dMulX, ↓DL.dIxX, ↓DL.wSlX, ↓DL.dSlX, ↓DL.wSlL2, ↓DL.withL_rl, ↓DL.lsOf, ↓DL.wDerL, ↓DL.wFz, ↓DL.wFzR, ↓DL.frzD, ↓DL.wSide, ↓DL.wCatX, ↓DL.dEqA, ↓DL.scalEq, ↓DL.eqB, ↓DL.iLq, ↓DL.iSg, ↓DL.iEn, ↓DL.wM1, ↓DL.isStr, ↓DL.dJoin, ↓DL.dStrip, ↓DL.wSplit, ↓DL.dIntX, ↓DL.dInF, ↓DL.dInS, ↓DL.seqOf, ↓DL.wPar3, ↓DL.wFld, ↓DL.fldD, ↓DL.wSetF, ↓DL.setFD, ↓DL.wAugF, ↓DL.wMeth, ↓DL.recvD, ↓DL.wMake, ↓DL.fillP, ↓DL.wAsg2, ↓DL.gFldD, ↓DL.gStD, ↓DL.starV, ↓DL.gCs, ↓DL.gNl, ↓DL.gTp, Nat.add_zero, List.append_nil, List.zipWith_nil_left, List.zipWith_cons_cons, List.getD_cons_zero, ↓DL.wYes, reduceCtorEq, ↓DL.dEqX, ↓DL.dInD, DL.dataS_rl, DL.dataS_tup, DL.dataS_int, DL.dataS_str, DL.dataS_non, DL.dataD_nil, DL.dataD_ti, DL.dataD_li, ↓DL.isL2, ↓DL.dCountX, ↓DL.dIndexX, Option.isSome_some, ↓DL.dStrX]
      (repeat refine And.intro (by first | exact True.intro | assumption | omega | (rw [sizeLine_eq]; omega) | rfl | (simp; omega) | (simp; rw [sizeLine_eq]; omega)) ?_)
      exact ⟨_, Le.refl _, h2⟩
    | some ns =>
      rw [e] at h2
      have ln := (nums_map e).2
      intro l hl
      simp only [↓DL.wSeq_nx, ↓DL.wSlT, ↓DL.wNo, ↓DL.wPart, ↓DL.dSlT, ↓DL.dCat, ↓DL.dListT, ↓DL.wFor, ↓DL.iR1, ↓DL.iR2, ↓DL.iTp, ↓DL.iLs, ↓DL.iNw, ↓DL.iLn, ↓DL.wNext, ↓DL.wIf, ↓DL.wRet, ↓DL.wRetN, ↓DL.wDrop, ↓DL.wAsg, ↓DL.gNm, ↓DL.wPar, ↓DL.wVar, ↓DL.wC, ↓DL.wOp, ↓DL.wUn, ↓DL.wTst, ↓DL.wChain, ↓DL.wAnd, ↓DL.wOr, ↓DL.wNot, ↓DL.wAndV, ↓DL.wOrV, ↓DL.wNotV, ↓DL.wIfE, ↓DL.wNil, ↓DL.wCons, ↓DL.wTup, ↓DL.wLst, ↓DL.wNew, ↓DL.wDer, ↓DL.wVL, ↓DL.wVLL, ↓DL.wALL, ↓DL.wCall, ↓DL.wIsa, ↓DL.wRaise, ↓DL.isB, ↓DL.dI0, ↓DL.dI, ↓DL.dU, ↓DL.dLen, ↓DL.dIx, ↓DL.gSubD, ↓DL.setD, ↓DL.wBM, ↓DL.isL, ↓DL.onL, ↓DL.dPopAt, ↓DL.dAppend, ↓DL.wIxV, ↓DL.wEqVL, ↓DL.wEqL, ↓DL.dEqS, ↓DL.dNeS, ↓DL.startD, List.map_cons, List.map_nil, List.length_cons, List.length_nil, List.cons_append, List.nil_append, List.replicate_succ, List.replicate_zero, List.getElem?_cons_zero, List.getElem?_cons_succ, List.set_cons_zero, List.set_cons_succ, Nat.reduceAdd, Nat.reduceSub, Nat.sub_self, ↓DL.kindD, ↓DL.dIsN, ↓DL.dNotN, ↓DL.isaB, String.reduceBEq, Bool.or_false, Bool.false_or, Bool.true_or, Bool.or_true, Bool.and_true, Bool.and_false, Bool.true_and, Bool.false_and, decide_true, decide_false, ↓DL.isNon, if_true, if_false, Bool.not_true, Bool.not_false, Bool.false_eq_true, reduceIte, true_and, and_true, ↓DL.dAddX, ↓DL.dMulX, ↓DL.dIxX, ↓DL.wSlX, ↓DL.dSlX, ↓DL.wSlL2, ↓DL.withL_rl, ↓DL.lsOf, ↓DL.wDerL, ↓DL.wFz, ↓DL.wFzR, ↓DL.frzD, ↓DL.wSide, ↓DL.wCatX, ↓DL.dEqA, ↓DL.scalEq, ↓DL.eqB, ↓DL.iLq, ↓DL.iSg, ↓DL.iEn, ↓DL.wM1, ↓DL.isStr, ↓DL.dJoin, ↓DL.dStrip, ↓DL.wSplit, ↓DL.dIntX, ↓DL.dInF, ↓DL.dInS, ↓DL.seqOf, ↓DL.wPar3, ↓DL.wFld, ↓DL.fldD, ↓DL.wSetF, ↓DL.setFD, ↓DL.wAugF, ↓DL.wMeth, ↓DL.recvD, ↓DL.wMake, ↓DL.fillP, ↓DL.wAsg2, ↓DL.gFldD, ↓DL.gStD, ↓DL.starV, ↓DL.gCs, ↓DL.gNl, ↓DL.gTp, Nat.add_zero, List.append_nil, List.zipWith_nil_left, List.zipWith_cons_cons, List.getD_cons_zero, ↓DL.wYes, reduceCtorEq, ↓DL.dEqX, ↓DL.dInD, DL.dataS_rl, DL.dataS_tup, DL.dataS_int, DL.dataS_str, DL.dataS_non, DL.dataD_nil, DL.dataD_ti, DL.dataD_li, ↓DL.isL2, ↓DL.dCountX, ↓DL.dIndexX, Option.isSome_some, ↓DL.dStrX, sup_same]
      rw [sdel_sup hl]
      unfold Nx
      simp only [↓DL.wSeq_nx, ↓DL.wSlT, ↓DL.wNo, ↓DL.wPart, ↓DL.dSlT, ↓DL.dCat, ↓DL.dListT, ↓DL.wFor, ↓DL.iR1, ↓DL.iR2, ↓DL.iTp, ↓DL.iLs, ↓DL.iNw, ↓DL.iLn, ↓DL.wNext, ↓DL.wIf, ↓DL.wRet, ↓DL.wRetN, ↓DL.wDrop, ↓DL.wAsg, ↓DL.gNm, ↓DL.wPar, ↓DL.wVar, ↓DL.wC, ↓DL.wOp, ↓DL.wUn, ↓DL.wTst, ↓DL.wChain, ↓DL.wAnd, ↓DL.wOr, ↓DL.wNot, ↓DL.wAndV, ↓DL.wOrV, ↓DL.wNotV, ↓DL.wIfE, ↓DL.wNil, ↓DL.wCons, ↓DL.wTup, ↓DL.wLst, ↓DL.wNew, ↓DL.wDer, ↓DL.wVL, ↓DL.wVLL, ↓DL.wALL, ↓DL.wCall, ↓DL.wIsa, ↓DL.wRaise, ↓DL.isB, ↓DL.dI0, ↓DL.dI, ↓DL.dU, ↓DL.dLen, ↓DL.dIx, ↓DL.gSubD, ↓DL.setD, ↓DL.wBM, ↓DL.isL, ↓DL.onL, ↓DL.dPopAt, ↓DL.dAppend, ↓DL.wIxV, ↓DL.wEqVL, ↓DL.wEqL, ↓DL.dEqS, ↓DL.dNeS, ↓DL.startD, List.map_cons, List.map_nil, List.length_cons, List.length_nil, List.cons_append, List.nil_append, List.replicate_succ, List.replicate_zero, List.getElem?_cons_zero, List.getElem?_cons_succ, List.set_cons_zero, List.set_cons_succ, Nat.reduceAdd, Nat.reduceSub, Nat.sub_self, ↓DL.kindD, ↓DL.dIsN, ↓DL.dNotN, ↓DL.isaB, String.reduceBEq, Bool.or_false, Bool.false_or, Bool.true_or, Bool.or_true, Bool.and_true, Bool.and_false, Bool.true_and, Bool.false_and, decide_true, decide_false, ↓DL.isNon, if_true, if_false, Bool.not_true, Bool.not_false, Bool.false_eq_true, reduceIte, true_and, and_true, ↓DL.dAddX, ↓DL.dMulX, ↓DL.dIxX, ↓DL.wSlX, ↓DL.dSlX, ↓DL.wSlL2, ↓DL.withL_rl, ↓DL.lsOf, ↓DL.wDerL, ↓DL.wFz, ↓DL.wFzR, ↓DL.frzD, ↓DL.wSide, ↓DL.wCatX, ↓DL.dEqA, ↓DL.scalEq, ↓DL.eqB, ↓DL.iLq, ↓DL.iSg, ↓DL.iEn, ↓DL.wM1, ↓DL.isStr, ↓DL.dJoin, ↓DL.dStrip, ↓DL.wSplit, ↓DL.dIntX, ↓DL.dInF, ↓DL.dInS, ↓DL.seqOf, ↓DL.wPar3, ↓DL.wFld, ↓DL.fldD, ↓DL.wSetF, ↓DL.setFD, ↓DL.wAugF, ↓DL.wMeth, ↓DL.recvD, ↓DL.wMake, ↓DL.fillP, ↓DL.wAsg2, ↓DL.gFldD, ↓DL.gStD, ↓DL.starV, ↓DL.gCs, ↓DL.gNl, ↓DL.gTp, Nat.add_zero, List.append_nil, List.zipWith_nil_left, List.zipWith_cons_cons, List.getD_cons_zero, ↓DL.wYes, reduceCtorEq, ↓DL.dEqX, ↓DL.dInD, DL.dataS_rl, DL.dataS_tup, DL.dataS_int, DL.dataS_str, DL.dataS_non, DL.dataD_nil, DL.dataD_ti, DL.dataD_li, ↓DL.isL2, ↓DL.dCountX, ↓DL.dIndexX, Option.isSome_some, ↓DL.dStrX]
      unfold Nx
      simp only [↓DL.wSeq_nx, ↓DL.wSlT, ↓DL.wNo, ↓DL.wPart, ↓DL.dSlT, ↓DL.dCat, ↓DL.dListT, ↓DL.wFor, ↓DL.iR1, ↓DL.iR2, ↓DL.iTp, ↓DL.iLs, ↓DL.iNw, ↓DL.iLn, ↓DL.wNext, ↓DL.wIf, ↓DL.wRet, ↓DL.wRetN, ↓DL.wDrop, ↓DL.wAsg, ↓DL.gNm, ↓DL.wPar, ↓DL.wVar, ↓DL.wC, ↓DL.wOp, ↓DL.wUn, ↓DL.wTst, ↓DL.wChain, ↓DL.wAnd, ↓DL.wOr, ↓DL.wNot, ↓DL.wAndV, ↓DL.wOrV, ↓DL.wNotV, ↓DL.wIfE, ↓DL.wNil, ↓DL.wCons, ↓DL.wTup, ↓DL.wLst, ↓DL.wNew, ↓DL.wDer, ↓DL.wVL, ↓DL.wVLL, ↓DL.wALL, ↓DL.wCall, ↓DL.wIsa, ↓DL.wRaise, ↓DL.isB, ↓DL.dI0, ↓DL.dI, ↓DL.dU, ↓DL.dLen, ↓DL.dIx, ↓DL.gSubD, ↓DL.setD, ↓DL.wBM, ↓DL.isL, ↓DL.onL, ↓DL.dPopAt, ↓DL.dAppend, ↓DL.wIxV, ↓DL.wEqVL, ↓DL.wEqL, ↓DL.dEqS, ↓DL.dNeS, ↓DL.startD, List.map_cons, List.map_nil, List.length_cons, List.length_nil, List.cons_append, List.nil_append, List.replicate_succ, List.replicate_zero, List.getElem?_cons_zero, List.getElem?_cons_succ, List.set_cons_zero, List.set_cons_succ, Nat.reduceAdd, Nat.reduceSub, Nat.sub_self, ↓DL.kindD, ↓DL.dIsN, ↓DL.dNotN, ↓DL.isaB, String.reduceBEq, Bool.or_false, Bool.false_or, Bool.true_or, Bool.or_true, Bool.and_true, Bool.and_false, Bool.true_and, Bool.false_and, decide_true, decide_false, ↓DL.isNon, if_true, if_false, Bool.not_true, Bool.not_false, Bool.false_eq_true, reduceIte, true_and, and_true, ↓DL.dAddX, ↓DL.dMulX, ↓DL.dIxX, ↓DL.wSlX, ↓DL.dSlX, ↓DL.wSlL2, ↓DL.withL_rl, ↓DL.lsOf, ↓DL.wDerL, ↓DL.wFz, ↓DL.wFzR, ↓DL.frzD, ↓DL.wSide, ↓DL.wCatX, ↓DL.dEqA, ↓DL.scalEq, ↓DL.eqB, ↓DL.iLq, ↓DL.iSg, ↓DL.iEn, ↓DL.wM1, ↓DL.isStr, ↓DL.dJoin, ↓DL.dStrip, ↓DL.wSplit, ↓DL.dIntX, ↓DL.dInF, ↓DL.dInS, ↓DL.seqOf, ↓DL.wPar3, ↓DL.wFld, ↓DL.fldD, ↓DL.wSetF, ↓DL.setFD, ↓DL.wAugF, ↓DL.wMeth, ↓DL.recvD, ↓DL.wMake, ↓DL.fillP, ↓DL.wAsg2, ↓DL.gFldD, ↓DL.gStD, ↓DL.starV, ↓DL.gCs, ↓DL.gNl, ↓DL.gTp, Nat.add_zero, List.append_nil, List.zipWith_nil_left, List.zipWith_cons_cons, List.getD_cons_zero, ↓DL.wYes, reduceCtorEq, ↓DL.dEqX, ↓DL.dInD, DL.dataS_rl, DL.dataS_tup, DL.dataS_int, DL.dataS_str, DL.dataS_non, DL.dataD_nil, DL.dataD_ti, DL.dataD_li, ↓DL.isL2, ↓DL.dCountX, ↓DL.dIndexX, Option.isSome_some, ↓DL.dStrX, ↓wLc]
      have fin : ∀ b, tokOk ns = b → Nx
          (wRet (wIfE (wTst (wVar 2)) (wVL (wDerL (wVar 1)) dTupOf) (wTup (wCons (wC (D.str "BadToken")) (wCons (wC (D.int 0)) wNil)))))
          { nx := fun x S' => Dr Q D.non S', rt := Dr Q, ex := fun e x S' => DrX ED e S' }
          [some (D.str x), some (D.rl (List.map D.int ns)), some (D.bl b), none] S := fun b eb => by
        dsimp only at h2
        unfold Nx
        simp only [↓DL.wSeq, ↓DL.wSlT, ↓DL.wNo, ↓DL.wPart, ↓DL.dSlT, ↓DL.dCat, ↓DL.dListT, ↓DL.wFor, ↓DL.iR1, ↓DL.iR2, ↓DL.iTp, ↓DL.iLs, ↓DL.iNw, ↓DL.iLn, ↓DL.wNext, ↓DL.wIf, ↓DL.wRet, ↓DL.wRetN, ↓DL.wDrop, ↓DL.wAsg, ↓DL.gNm, ↓DL.wPar, ↓DL.wVar, ↓DL.wC, ↓DL.wOp, ↓DL.wUn, ↓DL.wTst, ↓DL.wChain, ↓DL.wAnd, ↓DL.wOr, ↓DL.wNot, ↓DL.wAndV, ↓DL.wOrV, ↓DL.wNotV, ↓DL.wIfE, ↓DL.wNil, ↓DL.wCons, ↓DL.wTup, ↓DL.wLst, ↓DL.wNew, ↓DL.wDer, ↓DL.wVL, ↓DL.wVLL, ↓DL.wALL, ↓DL.wCall, ↓DL.wIsa, ↓DL.wRaise, ↓DL.isB, ↓DL.dI0, ↓DL.dI, ↓DL.dU, ↓DL.dLen, ↓DL.dIx, ↓DL.gSubD, ↓DL.setD, ↓DL.wBM, ↓DL.isL, ↓DL.onL, ↓DL.dPopAt, ↓DL.dAppend, ↓DL.wIxV, ↓DL.wEqVL, ↓DL.wEqL, ↓DL.dEqS, ↓DL.dNeS, ↓DL.startD, List.map_cons, List.map_nil, List.length_cons, List.length_nil, List.cons_append, List.nil_append, List.replicate_succ, List.replicate_zero, List.getElem?_cons_zero, List.getElem?_cons_succ, List.set_cons_zero, List.set_cons_succ, Nat.reduceAdd, Nat.reduceSub, Nat.sub_self, ↓DL.kindD, ↓DL.dIsN, ↓DL.dNotN, ↓DL.isaB, String.reduceBEq, Bool.or_false, Bool.false_or, Bool.true_or, Bool.or_true, Bool.and_true, Bool.and_false, Bool.true_and, Bool.false_and, decide_true, decide_false, ↓DL.isNon, if_true, if_false, Bool.not_true, Bool.not_false, Bool.false_eq_true, reduceIte, true_and, and_true, ↓DL.dAddX, ↓DL.dMulX, ↓DL.dIxX, ↓DL.wSlX, ↓DL.dSlX, ↓DL.wSlL2, ↓DL.withL_rl, ↓DL.lsOf, ↓DL.wDerL, ↓DL.wFz, ↓DL.wFzR, ↓DL.frzD, ↓DL.wSide, ↓DL.wCatX, ↓DL.dEqA, ↓DL.scalEq, ↓DL.eqB, ↓DL.iLq, ↓DL.iSg, ↓DL.iEn, ↓DL.wM1, ↓DL.isStr, ↓DL.dJoin, ↓DL.dStrip, ↓DL.wSplit, ↓DL.dIntX, ↓DL.dInF, ↓DL.dInS, ↓DL.seqOf, ↓DL.wPar3, ↓DL.wFld, ↓DL.fldD, ↓DL.wSetF, ↓DL.setFD, ↓DL.wAugF, ↓DL.wMeth, ↓DL.recvD, ↓DL.wMake, ↓DL.fillP, ↓DL.wAsg2, ↓DL.gFldD, ↓DL.gStD, ↓DL.starV, ↓DL.gCs, ↓DL.gNl, ↓DL.gTp, Nat.add_zero, List.append_nil, List.zipWith_nil_left, List.zipWith_cons_cons, List.getD_cons_zero, ↓DL.wYes, reduceCtorEq, ↓DL.dEqX, ↓DL.dInD, DL.dataS_rl, DL.dataS_tup, DL.dataS_int, DL.dataS_str, DL.dataS_non, DL.dataD_nil, DL.dataD_ti, DL.dataD_li, ↓DL.isL2, ↓DL.dCountX, ↓DL.dIndexX, Option.isSome_some, ↓DL.dStrX, dTupOf]
        cases b with
        | true => rw [if_pos eb] at h2; exact ⟨_, Le.refl _, h2⟩
        | false => rw [if_neg (by rw [eb]; decide)] at h2; exact ⟨by decide, _, Le.refl _, h2⟩
      by_cases l2 : 2 ≤ ns.length
      · rw [if_pos (by simp; omega)]
        by_cases l5 : ns.length ≤ 5
        · rw [if_pos (by simp; omega)]
          refine lcW_filter (fun d => match d with | .int n => !(decide (0 ≤ n) && decide (n ≤ 999)) | _ => false) id trivial (by simp; rw [sizeLine_eq]; omega) (fun d hd Kt Z k1 k2 => ?_) ?_
          · obtain ⟨n, hn, rfl⟩ := List.mem_map.mp hd
            simp only [id] at k1
            simp only [↓DL.wSeq, ↓DL.wSlT, ↓DL.wNo, ↓DL.wPart, ↓DL.dSlT, ↓DL.dCat, ↓DL.dListT, ↓DL.wFor, ↓DL.iR1, ↓DL.iR2, ↓DL.iTp, ↓DL.iLs, ↓DL.iNw, ↓DL.iLn, ↓DL.wNext, ↓DL.wIf, ↓DL.wRet, ↓DL.wRetN, ↓DL.wDrop, ↓DL.wAsg, ↓DL.gNm, ↓DL.wPar, ↓DL.wVar, ↓DL.wC, ↓DL.wOp, ↓DL.wUn, ↓DL.wTst, ↓DL.wChain, ↓DL.wAnd, ↓DL.wOr, ↓DL.wNot, ↓DL.wAndV, ↓DL.wOrV, ↓DL.wNotV, ↓DL.wIfE, ↓DL.wNil, ↓DL.wCons, ↓DL.wTup, ↓DL.wLst, ↓DL.wNew, ↓DL.wDer, ↓DL.wVL, ↓DL.wVLL, ↓DL.wALL, ↓DL.wCall, ↓DL.wIsa, ↓DL.wRaise, ↓DL.isB, ↓DL.dI0, ↓DL.dI, ↓DL.dU, ↓DL.dLen, ↓DL.dIx, ↓DL.gSubD, ↓DL.setD, ↓DL.wBM, ↓DL.isL, ↓DL.onL, ↓DL.dPopAt, ↓DL.dAppend, ↓DL.wIxV, ↓DL.wEqVL, ↓DL.wEqL, ↓DL.dEqS, ↓DL.dNeS, ↓DL.startD, List.map_cons, List.map_nil, List.length_cons, List.length_nil, List.cons_append, List.nil_append, List.replicate_succ, List.replicate_zero, List.getElem?_cons_zero, List.getElem?_cons_succ, List.set_cons_zero, List.set_cons_succ, Nat.reduceAdd, Nat.reduceSub, Nat.sub_self, ↓DL.kindD, ↓DL.dIsN, ↓DL.dNotN, ↓DL.isaB, String.reduceBEq, Bool.or_false, Bool.false_or, Bool.true_or, Bool.or_true, Bool.and_true, Bool.and_false, Bool.true_and, Bool.false_and, decide_true, decide_false, ↓DL.isNon, if_true, if_false, Bool.not_true, Bool.not_false, Bool.false_eq_true, reduceIte, true_and, and_true, ↓DL.dAddX, ↓DL.dMulX, ↓DL.dIxX, ↓DL.wSlX, ↓DL.dSlX, ↓DL.wSlL2, ↓DL.withL_rl, ↓DL.lsOf, ↓DL.wDerL, ↓DL.wFz, ↓DL.wFzR, ↓DL.frzD, ↓DL.wSide, ↓DL.wCatX, ↓DL.dEqA, ↓DL.scalEq, ↓DL.eqB, ↓DL.iLq, ↓DL.iSg, ↓DL.iEn, ↓DL.wM1, ↓DL.isStr, ↓DL.dJoin, ↓DL.dStrip, ↓DL.wSplit, ↓DL.dIntX, ↓DL.dInF, ↓DL.dInS, ↓DL.seqOf, ↓DL.wPar3, ↓DL.wFld, ↓DL.fldD, ↓DL.wSetF, ↓DL.setFD, ↓DL.wAugF, ↓DL.wMeth, ↓DL.recvD, ↓DL.wMake, ↓DL.fillP, ↓DL.wAsg2, ↓DL.gFldD, ↓DL.gStD, ↓DL.starV, ↓DL.gCs, ↓DL.gNl, ↓DL.gTp, Nat.add_zero, List.append_nil, List.zipWith_nil_left, List.zipWith_cons_cons, List.getD_cons_zero, ↓DL.wYes, reduceCtorEq, ↓DL.dEqX, ↓DL.dInD, DL.dataS_rl, DL.dataS_tup, DL.dataS_int, DL.dataS_str, DL.dataS_non, DL.dataD_nil, DL.dataD_ti, DL.dataD_li, ↓DL.isL2, ↓DL.dCountX, ↓DL.dIndexX, Option.isSome_some, ↓DL.dStrX, wipeD]
            by_cases g1 : 0 ≤ n
            · rw [if_pos (by simpa using g1)]
              by_cases g2 : n ≤ 999
              · rw [if_neg (by simpa using g2)]
                exact k2 (by simp [g1, g2])
              · rw [if_pos (by simpa using g2)]
                exact k1 (by simp [g2])
            · rw [if_neg (by simpa using g1)]
              exact k1 (by simp [g1])
          · have ef : (ns.map D.int).filter (fun d => match d with | .int n => !(decide (0 ≤ n) && decide (n ≤ 999)) | _ => false) = (ns.filter fun n => !(decide (0 ≤ n) && decide (n ≤ 999))).map D.int := by
              rw [List.filter_map]
              rfl
            rw [List.nil_append, List.map_id, ef]
            refine ⟨Nat.zero_le _, _, _, dataD_li _, rfl, shaped_li _, shaped_li [], ?_⟩
            refine fin _ ?_
            rw [PyData.eqv, eqvAll_nil]
            unfold tokOk
            rw [decide_eq_true (And.intro l2 l5), Bool.true_and, Bool.eq_iff_iff, List.all_eq_true, decide_eq_true_eq, List.filter_eq_nil_iff]
            simp
        · rw [if_neg (by simp; omega)]
          exact fin _ (by unfold tokOk; rw [decide_eq_false (fun z => l5 z.2)]; rfl)
      · rw [if_neg (by simp; omega)]
        exact fin _ (by unfold tokOk; rw [decide_eq_false (fun z => l2 z.1)]; rfl)
theorem atI_end {xs : List D} {a b c : D} : atI (xs ++ [a, b, c]) (-3) = some a ∧ atI (xs ++ [a, b, c]) (-2) = some b ∧ atI (xs ++ [a, b, c]) (-1) = some c := by
  have e : ∀ k : Nat, k ≤ 2 → atI (xs ++ [a, b, c]) (-((k : Int) + 1)) = (xs ++ [a, b, c])[xs.length + (2 - k)]? := fun k hk => by
    unfold atI ixN
    rw [if_neg (by omega), if_pos (by simp; omega)]
    simp only [Option.bind_some, List.length_append, List.length_cons, List.length_nil]
    congr 1
    omega
  have e0 := e 0 (by omega)
  have e1 := e 1 (by omega)
  have e2 := e 2 (by omega)
  refine ⟨?_, ?_, ?_⟩
  · rw [show ((-3 : Int)) = -(((2 : Nat) : Int) + 1) by decide, e2]; simp
  · rw [show ((-2 : Int)) = -(((1 : Nat) : Int) + 1) by decide, e1]; simp
  · rw [show ((-1 : Int)) = -(((0 : Nat) : Int) + 1) by decide, e0]; simp
theorem nums_d (q : PutR) : q.nums.map D.int = .int q.site :: .int q.num :: (q.past.map D.int ++ [.int q.turn, .int q.key, .int q.worth]) := by simp [PutR.nums]
theorem nums_end (q : PutR) : atI (q.nums.map D.int) (-3) = some (.int q.turn) ∧ atI (q.nums.map D.int) (-2) = some (.int q.key) ∧ atI (q.nums.map D.int) (-1) = some (.int q.worth) := by
  rw [nums_d]
  exact atI_end (xs := .int q.site :: .int q.num :: q.past.map D.int)
theorem nums_mid (q : PutR) : DL.cutD (q.nums.map D.int) (some 2) (some (-3)) = q.past.map D.int := by
  rw [nums_d]
  unfold DL.cutD
  rw [show (some (2 : Int)) = some ((2 : Nat) : Int) from rfl, HT.sIx_nat]
  unfold HT.sIx
  simp only [List.length_cons, List.length_append, List.length_map, List.length_nil]
  rw [if_pos (by decide), show min 2 (q.past.length + (0 + 1 + 1 + 1) + 1 + 1) = 2 by omega, show ((-3 : Int) + ((q.past.length + (0 + 1 + 1 + 1) + 1 + 1 : Nat) : Int)).toNat - 2 = (q.past.map D.int).length by rw [List.length_map]; omega]
  simp
def sp_llog : SpD := fun ds S Q _ => ∃ x : Str, ds = [.str x] ∧ x.length ≤ 10000 ∧ (match rdLog (rowsOf x) 0 with | .inl ps => ∀ l, S l = none → Q (.ref l) (sup S l (.lst (ps.map PutR.d))) | .inr r => Q (.tup [.str "BadText", .int r]) S)
--MUT _law_log | _law_log_here
--LST _law_log | _law_words
--LST _law_log | _law_found
--HINT _law_log | _law_numbers(_law_words[1:]) | frz
theorem sc__law_log : FnScope ["_law_text", "_law_log_here", "_law_rows", "_law_row", "_law_words", "_law_found"] ["_law_text"] (defScope s__law_log) := ⟨rfl, rfl, rfl, by decide +kernel, rfl, by decide +kernel, by decide +kernel⟩
theorem ok__law_log (G : Def K mg "_law_log" s__law_log ["_law_text"]) (T : Txt K mg) (c__law_numbers : Cal P w K mg base "_law_numbers" 1 ["_law_words"] sp_lnumbers) : Cal P w K mg base "_law_log" 2 ["_law_text"] sp_llog := by
  refine G.calD sc__law_log (fun ds S Q E h => ?_) fun f cdv A outer s H E hr => ⟨_, (dpss_cons (dps_set (i := 1) sc__law_log.nd rfl (by first | exact Or.inl rfl | exact Or.inr rfl) (dpe_new (dpl_lst dpa_nil)))
    (dpss_cons (dps_set (i := 2) sc__law_log.nd rfl (by first | exact Or.inl rfl | exact Or.inr rfl) (dpe_ifE (dpt_cmp (op_neA (hr.units)) lr_neA (dv 0) dpe_str (nomark _)) (dpe_fz (dpl_split (dv 0) dpe_str)) (dpe_fz (dpl_lst dpa_nil))))
    (dpss_cons (dps_for (passes_of rfl) rfl (dpi_r1 rfl T.b_range (dpa_cons (dpe_ba call_len lc_len rfl T.b_len bb_len (dpa_cons (dv 2) dpa_nil)) dpa_nil)) (dpg_name (vs := [3]) (i := 3) sc__law_log.nd rfl (by first | exact Or.inl rfl | exact Or.inr rfl) (by decide)) (dpss_cons (dps_set (i := 4) sc__law_log.nd rfl (by first | exact Or.inl rfl | exact Or.inr rfl) (dpe_fz (dpl_split (dpe_ixX (dv 2) (dv 3) (fun _ _ => rfl)) dpe_str)))
    (dpss_cons (dps_set (i := 5) sc__law_log.nd rfl (by first | exact Or.inl rfl | exact Or.inr rfl) (dpe_fzR (dpe_cal c__law_numbers hr (by first | decide | omega) rfl (takes_of rfl rfl rfl rfl) (dpa_cons (dpe_fz (dpl_slX (dv 4) (dpo_some dpe_int) dpo_none)) dpa_nil))))
    (dpss_cons (dps_if (dpw_pt (dpw_or (dpt_cmp (op_neA (hr.units)) lr_neA (dpe_ixX (dv 4) dpe_int (fun _ _ => rfl)) dpe_str (nomark _)) (dpw_or (dpt_not (dpt_chain op_le op_le lr_cmp lr_cmp dpe_int (dpe_ba call_len lc_len rfl T.b_len bb_len (dpa_cons (dv 4) dpa_nil)) dpe_int)) (dpw_or1 (dpt_cmp op_isN lr_isN (dv 5) dpe_non (nomark _)))))) (dpss_one (dps_ret (dpe_tup (dpa_cons dpe_str (dpa_cons (dv 3) dpa_nil))))) dpss_nil)
    (dpss_one (dps_expr (dpe_bm PySem.F.plainAttrs_list PySem.F.slot_list_append PySem.F.type_list_append mt_append lm_append ty_list (dv 1) (dpa_cons (dpe_tup (dpa_cons (dpe_ixX (dv 5) dpe_int (fun _ _ => rfl)) (dpa_cons (dpe_ixX (dv 5) dpe_int (fun _ _ => rfl)) (dpa_cons (dpe_tv call_tuple_of lc_tup rfl T.b_tuple bb_tuple (dpv_new (dpl_slX (dv 5) (dpo_some dpe_int) (dpo_some (dpe_un un_neg lr_neg dpe_int))))) (dpa_cons (dpe_ixX (dv 5) (dpe_un un_neg lr_neg dpe_int) (fun _ _ => rfl)) (dpa_cons (dpe_ixX (dv 5) (dpe_un un_neg lr_neg dpe_int) (fun _ _ => rfl)) (dpa_cons (dpe_ixX (dv 5) (dpe_un un_neg lr_neg dpe_int) (fun _ _ => rfl)) dpa_nil))))))) dpa_nil))))))))
    (dpss_one (dps_ret (dv 1)))))), ?_⟩
  · obtain ⟨x, rfl, _⟩ := h; rfl
  · rintro ds S Q ED ⟨x, rfl, l1, h2⟩
    simp only [↓DL.wSeq_nx, ↓DL.wSlT, ↓DL.wNo, ↓DL.wPart, ↓DL.dSlT, ↓DL.dCat, ↓DL.dListT, ↓DL.wFor, ↓DL.iR1, ↓DL.iR2, ↓DL.iTp, ↓DL.iLs, ↓DL.iNw, ↓DL.iLn, ↓DL.wNext, ↓DL.wIf, ↓DL.wRet, ↓DL.wRetN, ↓DL.wDrop, ↓DL.wAsg, ↓DL.gNm, ↓DL.wPar, ↓DL.wVar, ↓DL.wC, ↓DL.wOp, ↓DL.wUn, ↓DL.wTst, ↓DL.wChain, ↓DL.wAnd, ↓DL.wOr, ↓DL.wNot, ↓DL.wAndV, ↓DL.wOrV, ↓DL.wNotV, ↓DL.wIfE, ↓DL.wNil, ↓DL.wCons, ↓DL.wTup, ↓DL.wLst, ↓DL.wNew, ↓DL.wDer, ↓DL.wVL, ↓DL.wVLL, ↓DL.wALL, ↓DL.wCall, ↓DL.wIsa, ↓DL.wRaise, ↓DL.isB, ↓DL.dI0, ↓DL.dI, ↓DL.dU, ↓DL.dLen, ↓DL.dIx, ↓DL.gSubD, ↓DL.setD, ↓DL.wBM, ↓DL.isL, ↓DL.onL, ↓DL.dPopAt, ↓DL.dAppend, ↓DL.wIxV, ↓DL.wEqVL, ↓DL.wEqL, ↓DL.dEqS, ↓DL.dNeS, ↓DL.startD, List.map_cons, List.map_nil, List.length_cons, List.length_nil, List.cons_append, List.nil_append, List.replicate_succ, List.replicate_zero, List.getElem?_cons_zero, List.getElem?_cons_succ, List.set_cons_zero, List.set_cons_succ, Nat.reduceAdd, Nat.reduceSub, Nat.sub_self, ↓DL.kindD, ↓DL.dIsN, ↓DL.dNotN, ↓DL.isaB, String.reduceBEq, Bool.or_false, Bool.false_or, Bool.true_or, Bool.or_true, Bool.and_true, Bool.and_false, Bool.true_and, Bool.false_and, decide_true, decide_false, ↓DL.isNon, if_true, if_false, Bool.not_true, Bool.not_false, Bool.false_eq_true, reduceIte, true_and, and_true, ↓DL.dAddX, ↓DL.dMulX, ↓DL.dIxX, ↓DL.wSlX, ↓DL.dSlX, ↓DL.wSlL2, ↓DL.withL_rl, ↓DL.lsOf, ↓DL.wDerL, ↓DL.wFz, ↓DL.wFzR, ↓DL.frzD, ↓DL.wSide, ↓DL.wCatX, ↓DL.dEqA, ↓DL.scalEq, ↓DL.eqB, ↓DL.iLq, ↓DL.iSg, ↓DL.iEn, ↓DL.wM1, ↓DL.isStr, ↓DL.dJoin, ↓DL.dStrip, ↓DL.wSplit, ↓DL.dIntX, ↓DL.dInF, ↓DL.dInS, ↓DL.seqOf, ↓DL.wPar3, ↓DL.wFld, ↓DL.fldD, ↓DL.wSetF, ↓DL.setFD, ↓DL.wAugF, ↓DL.wMeth, ↓DL.recvD, ↓DL.wMake, ↓DL.fillP, ↓DL.wAsg2, ↓DL.gFldD, ↓DL.gStD, ↓DL.starV, ↓DL.gCs, ↓DL.gNl, ↓DL.gTp, Nat.add_zero, List.append_nil, List.zipWith_nil_left, List.zipWith_cons_cons, List.getD_cons_zero, ↓DL.wYes, reduceCtorEq, ↓DL.dEqX, ↓DL.dInD, DL.dataS_rl, DL.dataS_tup, DL.dataS_int, DL.dataS_str, DL.dataS_non, DL.dataD_nil, DL.dataD_ti, DL.dataD_li, ↓DL.isL2, ↓DL.dCountX, ↓DL.dIndexX, Option.isSome_some, ↓DL.dStrX]
    refine ⟨Nat.zero_le _, fun p hp => ?_⟩
    have rows : ∀ z, z ∈ rowsOf x → z.length ≤ 10000 := fun z hz => by
      unfold rowsOf at hz
      split at hz
      · cases hz
      · have := split_mem sepN hz
        omega
    have lr : (rowsOf x).length ≤ 10001 := by
      unfold rowsOf
      split
      · simp
      · have := split_len x sepN
        omega
    unfold Nx
    rw [DL.wSeq_nx]
    refine nx_join (fun σ S' => σ = [some (.str x), some (.ref p), some (.rl ((rowsOf x).map D.str)), none, none, none] ∧ S' = sup S p (.lst [])) ?_ ?_
    · rintro σ S' ⟨rfl, rfl⟩
      generalize rowsOf x = rs at *
      unfold Nx
      simp only [↓DL.wSeq_nx, ↓DL.wSlT, ↓DL.wNo, ↓DL.wPart, ↓DL.dSlT, ↓DL.dCat, ↓DL.dListT, ↓DL.wFor, ↓DL.iR1, ↓DL.iR2, ↓DL.iTp, ↓DL.iLs, ↓DL.iNw, ↓DL.iLn, ↓DL.wNext, ↓DL.wIf, ↓DL.wRet, ↓DL.wRetN, ↓DL.wDrop, ↓DL.wAsg, ↓DL.gNm, ↓DL.wPar, ↓DL.wVar, ↓DL.wC, ↓DL.wOp, ↓DL.wUn, ↓DL.wTst, ↓DL.wChain, ↓DL.wAnd, ↓DL.wOr, ↓DL.wNot, ↓DL.wAndV, ↓DL.wOrV, ↓DL.wNotV, ↓DL.wIfE, ↓DL.wNil, ↓DL.wCons, ↓DL.wTup, ↓DL.wLst, ↓DL.wNew, ↓DL.wDer, ↓DL.wVL, ↓DL.wVLL, ↓DL.wALL, ↓DL.wCall, ↓DL.wIsa, ↓DL.wRaise, ↓DL.isB, ↓DL.dI0, ↓DL.dI, ↓DL.dU, ↓DL.dLen, ↓DL.dIx, ↓DL.gSubD, ↓DL.setD, ↓DL.wBM, ↓DL.isL, ↓DL.onL, ↓DL.dPopAt, ↓DL.dAppend, ↓DL.wIxV, ↓DL.wEqVL, ↓DL.wEqL, ↓DL.dEqS, ↓DL.dNeS, ↓DL.startD, List.map_cons, List.map_nil, List.length_cons, List.length_nil, List.cons_append, List.nil_append, List.replicate_succ, List.replicate_zero, List.getElem?_cons_zero, List.getElem?_cons_succ, List.set_cons_zero, List.set_cons_succ, Nat.reduceAdd, Nat.reduceSub, Nat.sub_self, ↓DL.kindD, ↓DL.dIsN, ↓DL.dNotN, ↓DL.isaB, String.reduceBEq, Bool.or_false, Bool.false_or, Bool.true_or, Bool.or_true, Bool.and_true, Bool.and_false, Bool.true_and, Bool.false_and, decide_true, decide_false, ↓DL.isNon, if_true, if_false, Bool.not_true, Bool.not_false, Bool.false_eq_true, reduceIte, true_and, and_true, ↓DL.dAddX, ↓DL.dMulX, ↓DL.dIxX, ↓DL.wSlX, ↓DL.dSlX, ↓DL.wSlL2, ↓DL.withL_rl, ↓DL.lsOf, ↓DL.wDerL, ↓DL.wFz, ↓DL.wFzR, ↓DL.frzD, ↓DL.wSide, ↓DL.wCatX, ↓DL.dEqA, ↓DL.scalEq, ↓DL.eqB, ↓DL.iLq, ↓DL.iSg, ↓DL.iEn, ↓DL.wM1, ↓DL.isStr, ↓DL.dJoin, ↓DL.dStrip, ↓DL.wSplit, ↓DL.dIntX, ↓DL.dInF, ↓DL.dInS, ↓DL.seqOf, ↓DL.wPar3, ↓DL.wFld, ↓DL.fldD, ↓DL.wSetF, ↓DL.setFD, ↓DL.wAugF, ↓DL.wMeth, ↓DL.recvD, ↓DL.wMake, ↓DL.fillP, ↓DL.wAsg2, ↓DL.gFldD, ↓DL.gStD, ↓DL.starV, ↓DL.gCs, ↓DL.gNl, ↓DL.gTp, Nat.add_zero, List.append_nil, List.zipWith_nil_left, List.zipWith_cons_cons, List.getD_cons_zero, ↓DL.wYes, reduceCtorEq, ↓DL.dEqX, ↓DL.dInD, DL.dataS_rl, DL.dataS_tup, DL.dataS_int, DL.dataS_str, DL.dataS_non, DL.dataD_nil, DL.dataD_ti, DL.dataD_li, ↓DL.isL2, ↓DL.dCountX, ↓DL.dIndexX, Option.isSome_some, ↓DL.dStrX]
      refine ⟨⟨by omega, by simp; omega⟩, ?_⟩
      refine forW_ind (fun ds σ S' => ∃ (done : List PutR) (m : Nat) (c3 c4 c5 : Option D), done.length + m = rs.length ∧ rdLog rs 0 = comb done (rdLog (rs.drop done.length) done.length) ∧ ds = rngD done.length m ∧ σ = [some (.str x), some (.ref p), some (.rl (rs.map D.str)), c3, c4, c5] ∧ S' = sup S p (.lst (done.map PutR.d))) ?_ ?_ ⟨[], rs.length, _, _, _, by simp, by simp; cases rdLog rs 0 <;> rfl, by simp, rfl, rfl⟩
      · rintro σ S' ⟨done, m, c3, c4, c5, hl, er, et, rfl, rfl⟩
        refine ⟨trivial, ?_⟩
        cases m with
        | succ m => rw [rngD_cons] at et; cases et
        | zero =>
          rw [List.drop_eq_nil_of_le (by omega)] at er
          rw [er] at h2
          simp only [rdLog, comb, List.append_nil] at h2
          unfold Nx
          simp only [↓DL.wSeq, ↓DL.wSlT, ↓DL.wNo, ↓DL.wPart, ↓DL.dSlT, ↓DL.dCat, ↓DL.dListT, ↓DL.wFor, ↓DL.iR1, ↓DL.iR2, ↓DL.iTp, ↓DL.iLs, ↓DL.iNw, ↓DL.iLn, ↓DL.wNext, ↓DL.wIf, ↓DL.wRet, ↓DL.wRetN, ↓DL.wDrop, ↓DL.wAsg, ↓DL.gNm, ↓DL.wPar, ↓DL.wVar, ↓DL.wC, ↓DL.wOp, ↓DL.wUn, ↓DL.wTst, ↓DL.wChain, ↓DL.wAnd, ↓DL.wOr, ↓DL.wNot, ↓DL.wAndV, ↓DL.wOrV, ↓DL.wNotV, ↓DL.wIfE, ↓DL.wNil, ↓DL.wCons, ↓DL.wTup, ↓DL.wLst, ↓DL.wNew, ↓DL.wDer, ↓DL.wVL, ↓DL.wVLL, ↓DL.wALL, ↓DL.wCall, ↓DL.wIsa, ↓DL.wRaise, ↓DL.isB, ↓DL.dI0, ↓DL.dI, ↓DL.dU, ↓DL.dLen, ↓DL.dIx, ↓DL.gSubD, ↓DL.setD, ↓DL.wBM, ↓DL.isL, ↓DL.onL, ↓DL.dPopAt, ↓DL.dAppend, ↓DL.wIxV, ↓DL.wEqVL, ↓DL.wEqL, ↓DL.dEqS, ↓DL.dNeS, ↓DL.startD, List.map_cons, List.map_nil, List.length_cons, List.length_nil, List.cons_append, List.nil_append, List.replicate_succ, List.replicate_zero, List.getElem?_cons_zero, List.getElem?_cons_succ, List.set_cons_zero, List.set_cons_succ, Nat.reduceAdd, Nat.reduceSub, Nat.sub_self, ↓DL.kindD, ↓DL.dIsN, ↓DL.dNotN, ↓DL.isaB, String.reduceBEq, Bool.or_false, Bool.false_or, Bool.true_or, Bool.or_true, Bool.and_true, Bool.and_false, Bool.true_and, Bool.false_and, decide_true, decide_false, ↓DL.isNon, if_true, if_false, Bool.not_true, Bool.not_false, Bool.false_eq_true, reduceIte, true_and, and_true, ↓DL.dAddX, ↓DL.dMulX, ↓DL.dIxX, ↓DL.wSlX, ↓DL.dSlX, ↓DL.wSlL2, ↓DL.withL_rl, ↓DL.lsOf, ↓DL.wDerL, ↓DL.wFz, ↓DL.wFzR, ↓DL.frzD, ↓DL.wSide, ↓DL.wCatX, ↓DL.dEqA, ↓DL.scalEq, ↓DL.eqB, ↓DL.iLq, ↓DL.iSg, ↓DL.iEn, ↓DL.wM1, ↓DL.isStr, ↓DL.dJoin, ↓DL.dStrip, ↓DL.wSplit, ↓DL.dIntX, ↓DL.dInF, ↓DL.dInS, ↓DL.seqOf, ↓DL.wPar3, ↓DL.wFld, ↓DL.fldD, ↓DL.wSetF, ↓DL.setFD, ↓DL.wAugF, ↓DL.wMeth, ↓DL.recvD, ↓DL.wMake, ↓DL.fillP, ↓DL.wAsg2, ↓DL.gFldD, ↓DL.gStD, ↓DL.starV, ↓DL.gCs, ↓DL.gNl, ↓DL.gTp, Nat.add_zero, List.append_nil, List.zipWith_nil_left, List.zipWith_cons_cons, List.getD_cons_zero, ↓DL.wYes, reduceCtorEq, ↓DL.dEqX, ↓DL.dInD, DL.dataS_rl, DL.dataS_tup, DL.dataS_int, DL.dataS_str, DL.dataS_non, DL.dataD_nil, DL.dataD_ti, DL.dataD_li, ↓DL.isL2, ↓DL.dCountX, ↓DL.dIndexX, Option.isSome_some, ↓DL.dStrX]
          exact ⟨_, Le.refl _, h2 p hp⟩
      · rintro d2 ds σ S' ⟨done, m, c3, c4, c5, hl, er, et, rfl, rfl⟩ nx
        cases m with
        | zero => cases et
        | succ m =>
          rw [rngD_cons] at et
          cases et
          refine ⟨trivial, ?_⟩
          generalize hst : forW _ _ _ _ _ = NX at nx ⊢
          clear hst
          have hi : done.length < rs.length := by omega
          generalize et : rs[done.length] = t
          have tl := rows t (by rw [← et]; exact List.getElem_mem _)
          have ea : atI (rs.map D.str) (done.length : Int) = some (.str t) := by
            rw [atI_ofN, List.getElem?_map, List.getElem?_eq_getElem hi, et]
            rfl
          rw [List.drop_eq_getElem_cons hi, et] at er
          obtain ⟨wd, ws, ew⟩ := List.exists_cons_of_ne_nil (split_ne t sepB)
          have sl := split_len t sepB
          have sm : ∀ z ∈ wd :: ws, z.length ≤ 10000 := fun z hz => by rw [← ew] at hz; have := split_mem sepB hz; omega
          rw [ew, List.length_cons] at sl
          have rt : rdRow t = if wd = "put" ∧ 7 ≤ ws.length ∧ ws.length ≤ 10 then (nums ws).map putR else none := by
            unfold rdRow
            rw [ew]
          have bad : rdRow t = none → Dr Q (.tup [.str "BadText", .int done.length]) (sup S p (.lst (done.map PutR.d))) := fun z => by
            rw [er] at h2
            simp only [rdLog, z, comb] at h2
            exact ⟨_, Le.sup (Le.refl S) hp, h2⟩
          simp only [↓DL.wSeq_nx, ↓DL.wSlT, ↓DL.wNo, ↓DL.wPart, ↓DL.dSlT, ↓DL.dCat, ↓DL.dListT, ↓DL.wFor, ↓DL.iR1, ↓DL.iR2, ↓DL.iTp, ↓DL.iLs, ↓DL.iNw, ↓DL.iLn, ↓DL.wNext, ↓DL.wIf, ↓DL.wRet, ↓DL.wRetN, ↓DL.wDrop, ↓DL.wAsg, ↓DL.gNm, ↓DL.wPar, ↓DL.wVar, ↓DL.wC, ↓DL.wOp, ↓DL.wUn, ↓DL.wTst, ↓DL.wChain, ↓DL.wAnd, ↓DL.wOr, ↓DL.wNot, ↓DL.wAndV, ↓DL.wOrV, ↓DL.wNotV, ↓DL.wIfE, ↓DL.wNil, ↓DL.wCons, ↓DL.wTup, ↓DL.wLst, ↓DL.wNew, ↓DL.wDer, ↓DL.wVL, ↓DL.wVLL, ↓DL.wALL, ↓DL.wCall, ↓DL.wIsa, ↓DL.wRaise, ↓DL.isB, ↓DL.dI0, ↓DL.dI, ↓DL.dU, ↓DL.dLen, ↓DL.dIx, ↓DL.gSubD, ↓DL.setD, ↓DL.wBM, ↓DL.isL, ↓DL.onL, ↓DL.dPopAt, ↓DL.dAppend, ↓DL.wIxV, ↓DL.wEqVL, ↓DL.wEqL, ↓DL.dEqS, ↓DL.dNeS, ↓DL.startD, List.map_cons, List.map_nil, List.length_cons, List.length_nil, List.cons_append, List.nil_append, List.replicate_succ, List.replicate_zero, List.getElem?_cons_zero, List.getElem?_cons_succ, List.set_cons_zero, List.set_cons_succ, Nat.reduceAdd, Nat.reduceSub, Nat.sub_self, ↓DL.kindD, ↓DL.dIsN, ↓DL.dNotN, ↓DL.isaB, String.reduceBEq, Bool.or_false, Bool.false_or, Bool.true_or, Bool.or_true, Bool.and_true, Bool.and_false, Bool.true_and, Bool.false_and, decide_true, decide_false, ↓DL.isNon, if_true, if_false, Bool.not_true, Bool.not_false, Bool.false_eq_true, reduceIte, true_and, and_true, ↓DL.dAddX, ↓DL.dMulX, ↓DL.dIxX, ↓DL.wSlX, ↓DL.dSlX, ↓DL.wSlL2, ↓DL.withL_rl, ↓DL.lsOf, ↓DL.wDerL, ↓DL.wFz, ↓DL.wFzR, ↓DL.frzD, ↓DL.wSide, ↓DL.wCatX, ↓DL.dEqA, ↓DL.scalEq, ↓DL.eqB, ↓DL.iLq, ↓DL.iSg, ↓DL.iEn, ↓DL.wM1, ↓DL.isStr, ↓DL.dJoin, ↓DL.dStrip, ↓DL.wSplit, ↓DL.dIntX, ↓DL.dInF, ↓DL.dInS, ↓DL.seqOf, ↓DL.wPar3, ↓DL.wFld, ↓DL.fldD, ↓DL.wSetF, ↓DL.setFD, ↓DL.wAugF, ↓DL.wMeth, ↓DL.recvD, ↓DL.wMake, ↓DL.fillP, ↓DL.wAsg2, ↓DL.gFldD, ↓DL.gStD, ↓DL.starV, ↓DL.gCs, ↓DL.gNl, ↓DL.gTp, Nat.add_zero, List.append_nil, List.zipWith_nil_left, List.zipWith_cons_cons, List.getD_cons_zero, ↓DL.wYes, reduceCtorEq, ↓DL.dEqX, ↓DL.dInD, DL.dataS_rl, DL.dataS_tup, DL.dataS_int, DL.dataS_str, DL.dataS_non, DL.dataD_nil, DL.dataD_ti, DL.dataD_li, ↓DL.isL2, ↓DL.dCountX, ↓DL.dIndexX, Option.isSome_some, ↓DL.dStrX, ea, ew]
          unfold Nx
          simp only [↓DL.wSeq_nx, ↓DL.wSlT, ↓DL.wNo, ↓DL.wPart, ↓DL.dSlT, ↓DL.dCat, ↓DL.dListT, ↓DL.wFor, ↓DL.iR1, ↓DL.iR2, ↓DL.iTp, ↓DL.iLs, ↓DL.iNw, ↓DL.iLn, ↓DL.wNext, ↓DL.wIf, ↓DL.wRet, ↓DL.wRetN, ↓DL.wDrop, ↓DL.wAsg, ↓DL.gNm, ↓DL.wPar, ↓DL.wVar, ↓DL.wC, ↓DL.wOp, ↓DL.wUn, ↓DL.wTst, ↓DL.wChain, ↓DL.wAnd, ↓DL.wOr, ↓DL.wNot, ↓DL.wAndV, ↓DL.wOrV, ↓DL.wNotV, ↓DL.wIfE, ↓DL.wNil, ↓DL.wCons, ↓DL.wTup, ↓DL.wLst, ↓DL.wNew, ↓DL.wDer, ↓DL.wVL, ↓DL.wVLL, ↓DL.wALL, ↓DL.wCall, ↓DL.wIsa, ↓DL.wRaise, ↓DL.isB, ↓DL.dI0, ↓DL.dI, ↓DL.dU, ↓DL.dLen, ↓DL.dIx, ↓DL.gSubD, ↓DL.setD, ↓DL.wBM, ↓DL.isL, ↓DL.onL, ↓DL.dPopAt, ↓DL.dAppend, ↓DL.wIxV, ↓DL.wEqVL, ↓DL.wEqL, ↓DL.dEqS, ↓DL.dNeS, ↓DL.startD, List.map_cons, List.map_nil, List.length_cons, List.length_nil, List.cons_append, List.nil_append, List.replicate_succ, List.replicate_zero, List.getElem?_cons_zero, List.getElem?_cons_succ, List.set_cons_zero, List.set_cons_succ, Nat.reduceAdd, Nat.reduceSub, Nat.sub_self, ↓DL.kindD, ↓DL.dIsN, ↓DL.dNotN, ↓DL.isaB, String.reduceBEq, Bool.or_false, Bool.false_or, Bool.true_or, Bool.or_true, Bool.and_true, Bool.and_false, Bool.true_and, Bool.false_and, decide_true, decide_false, ↓DL.isNon, if_true, if_false, Bool.not_true, Bool.not_false, Bool.false_eq_true, reduceIte, true_and, and_true, ↓DL.dAddX, ↓DL.dMulX, ↓DL.dIxX, ↓DL.wSlX, ↓DL.dSlX, ↓DL.wSlL2, ↓DL.withL_rl, ↓DL.lsOf, ↓DL.wDerL, ↓DL.wFz, ↓DL.wFzR, ↓DL.wSide, ↓DL.wCatX, ↓DL.dEqA, ↓DL.scalEq, ↓DL.eqB, ↓DL.iLq, ↓DL.iSg, ↓DL.iEn, ↓DL.wM1, ↓DL.isStr, ↓DL.dJoin, ↓DL.dStrip, ↓DL.wSplit, ↓DL.dIntX, ↓DL.dInF, ↓DL.dInS, ↓DL.seqOf, ↓DL.wPar3, ↓DL.wFld, ↓DL.fldD, ↓DL.wSetF, ↓DL.setFD, ↓DL.wAugF, ↓DL.wMeth, ↓DL.recvD, ↓DL.wMake, ↓DL.fillP, ↓DL.wAsg2, ↓DL.gFldD, ↓DL.gStD, ↓DL.starV, ↓DL.gCs, ↓DL.gNl, ↓DL.gTp, Nat.add_zero, List.append_nil, List.zipWith_nil_left, List.zipWith_cons_cons, List.getD_cons_zero, ↓DL.wYes, reduceCtorEq, ↓DL.dEqX, ↓DL.dInD, DL.dataS_rl, DL.dataS_tup, DL.dataS_int, DL.dataS_str, DL.dataS_non, DL.dataD_nil, DL.dataD_ti, DL.dataD_li, ↓DL.isL2, ↓DL.dCountX, ↓DL.dIndexX, Option.isSome_some, ↓DL.dStrX, sp_lnumbers]
          have ec : DL.cutD (D.str wd :: ws.map D.str) (some 1) none = ws.map D.str := by rw [cut_drop (by decide)]; rfl
          rw [ec]
          refine ⟨⟨by decide, by rw [sizeLine_eq]; omega⟩, _, ws, rfl, rfl, by omega, fun z hz => by have := sm z (by simp [hz]); omega, ?_⟩
          cases en : nums ws with
          | none =>
            have b2 := bad (by rw [rt, en]; split <;> rfl)
            simp only [↓DL.wSeq_nx, ↓DL.wSlT, ↓DL.wNo, ↓DL.wPart, ↓DL.dSlT, ↓DL.dCat, ↓DL.dListT, ↓DL.wFor, ↓DL.iR1, ↓DL.iR2, ↓DL.iTp, ↓DL.iLs, ↓DL.iNw, ↓DL.iLn, ↓DL.wNext, ↓DL.wIf, ↓DL.wRet, ↓DL.wRetN, ↓DL.wDrop, ↓DL.wAsg, ↓DL.gNm, ↓DL.wPar, ↓DL.wVar, ↓DL.wC, ↓DL.wOp, ↓DL.wUn, ↓DL.wTst, ↓DL.wChain, ↓DL.wAnd, ↓DL.wOr, ↓DL.wNot, ↓DL.wAndV, ↓DL.wOrV, ↓DL.wNotV, ↓DL.wIfE, ↓DL.wNil, ↓DL.wCons, ↓DL.wTup, ↓DL.wLst, ↓DL.wNew, ↓DL.wDer, ↓DL.wVL, ↓DL.wVLL, ↓DL.wALL, ↓DL.wCall, ↓DL.wIsa, ↓DL.wRaise, ↓DL.isB, ↓DL.dI0, ↓DL.dI, ↓DL.dU, ↓DL.dLen, ↓DL.dIx, ↓DL.gSubD, ↓DL.setD, ↓DL.wBM, ↓DL.isL, ↓DL.onL, ↓DL.dPopAt, ↓DL.dAppend, ↓DL.wIxV, ↓DL.wEqVL, ↓DL.wEqL, ↓DL.dEqS, ↓DL.dNeS, ↓DL.startD, List.map_cons, List.map_nil, List.length_cons, List.length_nil, List.cons_append, List.nil_append, List.replicate_succ, List.replicate_zero, List.getElem?_cons_zero, List.getElem?_cons_succ, List.set_cons_zero, List.set_cons_succ, Nat.reduceAdd, Nat.reduceSub, Nat.sub_self, ↓DL.kindD, ↓DL.dIsN, ↓DL.dNotN, ↓DL.isaB, String.reduceBEq, Bool.or_false, Bool.false_or, Bool.true_or, Bool.or_true, Bool.and_true, Bool.and_false, Bool.true_and, Bool.false_and, decide_true, decide_false, ↓DL.isNon, if_true, if_false, Bool.not_true, Bool.not_false, Bool.false_eq_true, reduceIte, true_and, and_true, ↓DL.dAddX, ↓DL.dMulX, ↓DL.dIxX, ↓DL.wSlX, ↓DL.dSlX, ↓DL.wSlL2, ↓DL.withL_rl, ↓DL.lsOf, ↓DL.wDerL, ↓DL.wFz, ↓DL.wFzR, ↓DL.frzD, ↓DL.wSide, ↓DL.wCatX, ↓DL.dEqA, ↓DL.scalEq, ↓DL.eqB, ↓DL.iLq, ↓DL.iSg, ↓DL.iEn, ↓DL.wM1, ↓DL.isStr, ↓DL.dJoin, ↓DL.dStrip, ↓DL.wSplit, ↓DL.dIntX, ↓DL.dInF, ↓DL.dInS, ↓DL.seqOf, ↓DL.wPar3, ↓DL.wFld, ↓DL.fldD, ↓DL.wSetF, ↓DL.setFD, ↓DL.wAugF, ↓DL.wMeth, ↓DL.recvD, ↓DL.wMake, ↓DL.fillP, ↓DL.wAsg2, ↓DL.gFldD, ↓DL.gStD, ↓DL.starV, ↓DL.gCs, ↓DL.gNl, ↓DL.gTp, Nat.add_zero, List.append_nil, List.zipWith_nil_left, List.zipWith_cons_cons, List.getD_cons_zero, ↓DL.wYes, reduceCtorEq, ↓DL.dEqX, ↓DL.dInD, DL.dataS_rl, DL.dataS_tup, DL.dataS_int, DL.dataS_str, DL.dataS_non, DL.dataD_nil, DL.dataD_ti, DL.dataD_li, ↓DL.isL2, ↓DL.dCountX, ↓DL.dIndexX, Option.isSome_some, ↓DL.dStrX]
            unfold Nx
            simp only [↓DL.wSeq_nx, ↓DL.wSlT, ↓DL.wNo, ↓DL.wPart, ↓DL.dSlT, ↓DL.dCat, ↓DL.dListT, ↓DL.wFor, ↓DL.iR1, ↓DL.iR2, ↓DL.iTp, ↓DL.iLs, ↓DL.iNw, ↓DL.iLn, ↓DL.wNext, ↓DL.wIf, ↓DL.wRet, ↓DL.wRetN, ↓DL.wDrop, ↓DL.wAsg, ↓DL.gNm, ↓DL.wPar, ↓DL.wVar, ↓DL.wC, ↓DL.wOp, ↓DL.wUn, ↓DL.wTst, ↓DL.wChain, ↓DL.wAnd, ↓DL.wOr, ↓DL.wNot, ↓DL.wAndV, ↓DL.wOrV, ↓DL.wNotV, ↓DL.wIfE, ↓DL.wNil, ↓DL.wCons, ↓DL.wTup, ↓DL.wLst, ↓DL.wNew, ↓DL.wDer, ↓DL.wVL, ↓DL.wVLL, ↓DL.wALL, ↓DL.wCall, ↓DL.wIsa, ↓DL.wRaise, ↓DL.isB, ↓DL.dI0, ↓DL.dI, ↓DL.dU, ↓DL.dLen, ↓DL.dIx, ↓DL.gSubD, ↓DL.setD, ↓DL.wBM, ↓DL.isL, ↓DL.onL, ↓DL.dPopAt, ↓DL.dAppend, ↓DL.wIxV, ↓DL.wEqVL, ↓DL.wEqL, ↓DL.dEqS, ↓DL.dNeS, ↓DL.startD, List.map_cons, List.map_nil, List.length_cons, List.length_nil, List.cons_append, List.nil_append, List.replicate_succ, List.replicate_zero, List.getElem?_cons_zero, List.getElem?_cons_succ, List.set_cons_zero, List.set_cons_succ, Nat.reduceAdd, Nat.reduceSub, Nat.sub_self, ↓DL.kindD, ↓DL.dIsN, ↓DL.dNotN, ↓DL.isaB, String.reduceBEq, Bool.or_false, Bool.false_or, Bool.true_or, Bool.or_true, Bool.and_true, Bool.and_false, Bool.true_and, Bool.false_and, decide_true, decide_false, ↓DL.isNon, if_true, if_false, Bool.not_true, Bool.not_false, Bool.false_eq_true, reduceIte, true_and, and_true, ↓DL.dAddX, ↓DL.dMulX, ↓DL.dIxX, ↓DL.wSlX, ↓DL.dSlX, ↓DL.wSlL2, ↓DL.withL_rl, ↓DL.lsOf, ↓DL.wDerL, ↓DL.wFz, ↓DL.wFzR, ↓DL.frzD, ↓DL.wSide, ↓DL.wCatX, ↓DL.dEqA, ↓DL.scalEq, ↓DL.eqB, ↓DL.iLq, ↓DL.iSg, ↓DL.iEn, ↓DL.wM1, ↓DL.isStr, ↓DL.dJoin, ↓DL.dStrip, ↓DL.wSplit, ↓DL.dIntX, ↓DL.dInF, ↓DL.dInS, ↓DL.seqOf, ↓DL.wPar3, ↓DL.wFld, ↓DL.fldD, ↓DL.wSetF, ↓DL.setFD, ↓DL.wAugF, ↓DL.wMeth, ↓DL.recvD, ↓DL.wMake, ↓DL.fillP, ↓DL.wAsg2, ↓DL.gFldD, ↓DL.gStD, ↓DL.starV, ↓DL.gCs, ↓DL.gNl, ↓DL.gTp, Nat.add_zero, List.append_nil, List.zipWith_nil_left, List.zipWith_cons_cons, List.getD_cons_zero, ↓DL.wYes, reduceCtorEq, ↓DL.dEqX, ↓DL.dInD, DL.dataS_rl, DL.dataS_tup, DL.dataS_int, DL.dataS_str, DL.dataS_non, DL.dataD_nil, DL.dataD_ti, DL.dataD_li, ↓DL.isL2, ↓DL.dCountX, ↓DL.dIndexX, Option.isSome_some, ↓DL.dStrX, atI0]
            have b3 : 2 ≤ sizeLine ∧ Dr Q (.tup [.str "BadText", .int done.length]) (sup S p (.lst (done.map PutR.d))) := ⟨by decide, b2⟩
            repeat' split
            all_goals exact b3
          | some ns =>
            intro l hlf
            simp only [↓DL.wSeq_nx, ↓DL.wSlT, ↓DL.wNo, ↓DL.wPart, ↓DL.dSlT, ↓DL.dCat, ↓DL.dListT, ↓DL.wFor, ↓DL.iR1, ↓DL.iR2, ↓DL.iTp, ↓DL.iLs, ↓DL.iNw, ↓DL.iLn, ↓DL.wNext, ↓DL.wIf, ↓DL.wRet, ↓DL.wRetN, ↓DL.wDrop, ↓DL.wAsg, ↓DL.gNm, ↓DL.wPar, ↓DL.wVar, ↓DL.wC, ↓DL.wOp, ↓DL.wUn, ↓DL.wTst, ↓DL.wChain, ↓DL.wAnd, ↓DL.wOr, ↓DL.wNot, ↓DL.wAndV, ↓DL.wOrV, ↓DL.wNotV, ↓DL.wIfE, ↓DL.wNil, ↓DL.wCons, ↓DL.wTup, ↓DL.wLst, ↓DL.wNew, ↓DL.wDer, ↓DL.wVL, ↓DL.wVLL, ↓DL.wALL, ↓DL.wCall, ↓DL.wIsa, ↓DL.wRaise, ↓DL.isB, ↓DL.dI0, ↓DL.dI, ↓DL.dU, ↓DL.dLen, ↓DL.dIx, ↓DL.gSubD, ↓DL.setD, ↓DL.wBM, ↓DL.isL, ↓DL.onL, ↓DL.dPopAt, ↓DL.dAppend, ↓DL.wIxV, ↓DL.wEqVL, ↓DL.wEqL, ↓DL.dEqS, ↓DL.dNeS, ↓DL.startD, List.map_cons, List.map_nil, List.length_cons, List.length_nil, List.cons_append, List.nil_append, List.replicate_succ, List.replicate_zero, List.getElem?_cons_zero, List.getElem?_cons_succ, List.set_cons_zero, List.set_cons_succ, Nat.reduceAdd, Nat.reduceSub, Nat.sub_self, ↓DL.kindD, ↓DL.dIsN, ↓DL.dNotN, ↓DL.isaB, String.reduceBEq, Bool.or_false, Bool.false_or, Bool.true_or, Bool.or_true, Bool.and_true, Bool.and_false, Bool.true_and, Bool.false_and, decide_true, decide_false, ↓DL.isNon, if_true, if_false, Bool.not_true, Bool.not_false, Bool.false_eq_true, reduceIte, true_and, and_true, ↓DL.dAddX, ↓DL.dMulX, ↓DL.dIxX, ↓DL.wSlX, ↓DL.dSlX, ↓DL.wSlL2, ↓DL.withL_rl, ↓DL.lsOf, ↓DL.wDerL, ↓DL.wFz, ↓DL.wFzR, ↓DL.frzD, ↓DL.wSide, ↓DL.wCatX, ↓DL.dEqA, ↓DL.scalEq, ↓DL.eqB, ↓DL.iLq, ↓DL.iSg, ↓DL.iEn, ↓DL.wM1, ↓DL.isStr, ↓DL.dJoin, ↓DL.dStrip, ↓DL.wSplit, ↓DL.dIntX, ↓DL.dInF, ↓DL.dInS, ↓DL.seqOf, ↓DL.wPar3, ↓DL.wFld, ↓DL.fldD, ↓DL.wSetF, ↓DL.setFD, ↓DL.wAugF, ↓DL.wMeth, ↓DL.recvD, ↓DL.wMake, ↓DL.fillP, ↓DL.wAsg2, ↓DL.gFldD, ↓DL.gStD, ↓DL.starV, ↓DL.gCs, ↓DL.gNl, ↓DL.gTp, Nat.add_zero, List.append_nil, List.zipWith_nil_left, List.zipWith_cons_cons, List.getD_cons_zero, ↓DL.wYes, reduceCtorEq, ↓DL.dEqX, ↓DL.dInD, DL.dataS_rl, DL.dataS_tup, DL.dataS_int, DL.dataS_str, DL.dataS_non, DL.dataD_nil, DL.dataD_ti, DL.dataD_li, ↓DL.isL2, ↓DL.dCountX, ↓DL.dIndexX, Option.isSome_some, ↓DL.dStrX, sup_same]
            rw [sdel_sup hlf]
            unfold Nx
            simp only [↓DL.wSeq_nx, ↓DL.wSlT, ↓DL.wNo, ↓DL.wPart, ↓DL.dSlT, ↓DL.dCat, ↓DL.dListT, ↓DL.wFor, ↓DL.iR1, ↓DL.iR2, ↓DL.iTp, ↓DL.iLs, ↓DL.iNw, ↓DL.iLn, ↓DL.wNext, ↓DL.wIf, ↓DL.wRet, ↓DL.wRetN, ↓DL.wDrop, ↓DL.wAsg, ↓DL.gNm, ↓DL.wPar, ↓DL.wVar, ↓DL.wC, ↓DL.wOp, ↓DL.wUn, ↓DL.wTst, ↓DL.wChain, ↓DL.wAnd, ↓DL.wOr, ↓DL.wNot, ↓DL.wAndV, ↓DL.wOrV, ↓DL.wNotV, ↓DL.wIfE, ↓DL.wNil, ↓DL.wCons, ↓DL.wTup, ↓DL.wLst, ↓DL.wNew, ↓DL.wDer, ↓DL.wVL, ↓DL.wVLL, ↓DL.wALL, ↓DL.wCall, ↓DL.wIsa, ↓DL.wRaise, ↓DL.isB, ↓DL.dI0, ↓DL.dI, ↓DL.dU, ↓DL.dLen, ↓DL.dIx, ↓DL.gSubD, ↓DL.setD, ↓DL.wBM, ↓DL.isL, ↓DL.onL, ↓DL.dPopAt, ↓DL.dAppend, ↓DL.wIxV, ↓DL.wEqVL, ↓DL.wEqL, ↓DL.dEqS, ↓DL.dNeS, ↓DL.startD, List.map_cons, List.map_nil, List.length_cons, List.length_nil, List.cons_append, List.nil_append, List.replicate_succ, List.replicate_zero, List.getElem?_cons_zero, List.getElem?_cons_succ, List.set_cons_zero, List.set_cons_succ, Nat.reduceAdd, Nat.reduceSub, Nat.sub_self, ↓DL.kindD, ↓DL.dIsN, ↓DL.dNotN, ↓DL.isaB, String.reduceBEq, Bool.or_false, Bool.false_or, Bool.true_or, Bool.or_true, Bool.and_true, Bool.and_false, Bool.true_and, Bool.false_and, decide_true, decide_false, ↓DL.isNon, if_true, if_false, Bool.not_true, Bool.not_false, Bool.false_eq_true, reduceIte, true_and, and_true, ↓DL.dAddX, ↓DL.dMulX, ↓DL.dIxX, ↓DL.wSlX, ↓DL.dSlX, ↓DL.wSlL2, ↓DL.withL_rl, ↓DL.lsOf, ↓DL.wDerL, ↓DL.wFz, ↓DL.wFzR, ↓DL.frzD, ↓DL.wSide, ↓DL.wCatX, ↓DL.dEqA, ↓DL.scalEq, ↓DL.eqB, ↓DL.iLq, ↓DL.iSg, ↓DL.iEn, ↓DL.wM1, ↓DL.isStr, ↓DL.dJoin, ↓DL.dStrip, ↓DL.wSplit, ↓DL.dIntX, ↓DL.dInF, ↓DL.dInS, ↓DL.seqOf, ↓DL.wPar3, ↓DL.wFld, ↓DL.fldD, ↓DL.wSetF, ↓DL.setFD, ↓DL.wAugF, ↓DL.wMeth, ↓DL.recvD, ↓DL.wMake, ↓DL.fillP, ↓DL.wAsg2, ↓DL.gFldD, ↓DL.gStD, ↓DL.starV, ↓DL.gCs, ↓DL.gNl, ↓DL.gTp, Nat.add_zero, List.append_nil, List.zipWith_nil_left, List.zipWith_cons_cons, List.getD_cons_zero, ↓DL.wYes, reduceCtorEq, ↓DL.dEqX, ↓DL.dInD, DL.dataS_rl, DL.dataS_tup, DL.dataS_int, DL.dataS_str, DL.dataS_non, DL.dataD_nil, DL.dataD_ti, DL.dataD_li, ↓DL.isL2, ↓DL.dCountX, ↓DL.dIndexX, Option.isSome_some, ↓DL.dStrX, atI0]
            have b3 : rdRow t = none → 2 ≤ sizeLine ∧ Dr Q (.tup [.str "BadText", .int done.length]) (sup S p (.lst (done.map PutR.d))) := fun z => ⟨by decide, bad z⟩
            by_cases q1 : wd = "put"
            · rw [if_neg (by simp [q1])]
              by_cases q2 : 7 ≤ ws.length
              · rw [if_pos (by simp; omega)]
                by_cases q3 : ws.length ≤ 10
                · rw [if_neg (by simp; omega)]
                  rw [if_pos ⟨q1, q2, q3⟩, en] at rt
                  have ln := (nums_map en).2
                  have pn := putR_nums (ns := ns) (by omega)
                  dsimp only [Option.map_some] at rt
                  generalize putR ns = q at rt pn
                  rw [← pn]
                  obtain ⟨g1, g2, g3⟩ := nums_end q
                  have g0 := nums_mid q
                  have f0 : atI (q.nums.map D.int) 0 = some (.int q.site) := by rw [nums_d]; exact atI0
                  have f1 : atI (q.nums.map D.int) 1 = some (.int q.num) := by rw [nums_d]; exact atI1
                  unfold Nx
                  simp only [↓DL.wSeq, ↓DL.wSlT, ↓DL.wNo, ↓DL.wPart, ↓DL.dSlT, ↓DL.dCat, ↓DL.dListT, ↓DL.wFor, ↓DL.iR1, ↓DL.iR2, ↓DL.iTp, ↓DL.iLs, ↓DL.iNw, ↓DL.iLn, ↓DL.wNext, ↓DL.wIf, ↓DL.wRet, ↓DL.wRetN, ↓DL.wDrop, ↓DL.wAsg, ↓DL.gNm, ↓DL.wPar, ↓DL.wVar, ↓DL.wC, ↓DL.wOp, ↓DL.wUn, ↓DL.wTst, ↓DL.wChain, ↓DL.wAnd, ↓DL.wOr, ↓DL.wNot, ↓DL.wAndV, ↓DL.wOrV, ↓DL.wNotV, ↓DL.wIfE, ↓DL.wNil, ↓DL.wCons, ↓DL.wTup, ↓DL.wLst, ↓DL.wNew, ↓DL.wDer, ↓DL.wVL, ↓DL.wVLL, ↓DL.wALL, ↓DL.wCall, ↓DL.wIsa, ↓DL.wRaise, ↓DL.isB, ↓DL.dI0, ↓DL.dI, ↓DL.dU, ↓DL.dLen, ↓DL.dIx, ↓DL.gSubD, ↓DL.setD, ↓DL.wBM, ↓DL.isL, ↓DL.onL, ↓DL.dPopAt, ↓DL.dAppend, ↓DL.wIxV, ↓DL.wEqVL, ↓DL.wEqL, ↓DL.dEqS, ↓DL.dNeS, ↓DL.startD, List.map_cons, List.map_nil, List.length_cons, List.length_nil, List.cons_append, List.nil_append, List.replicate_succ, List.replicate_zero, List.getElem?_cons_zero, List.getElem?_cons_succ, List.set_cons_zero, List.set_cons_succ, Nat.reduceAdd, Nat.reduceSub, Nat.sub_self, ↓DL.kindD, ↓DL.dIsN, ↓DL.dNotN, ↓DL.isaB, String.reduceBEq, Bool.or_false, Bool.false_or, Bool.true_or, Bool.or_true, Bool.and_true, Bool.and_false, Bool.true_and, Bool.false_and, decide_true, decide_false, ↓DL.isNon, if_true, if_false, Bool.not_true, Bool.not_false, Bool.false_eq_true, reduceIte, true_and, and_true, ↓DL.dAddX, ↓DL.dMulX, ↓DL.dIxX, ↓DL.wSlX, ↓DL.dSlX, ↓DL.wSlL2, ↓DL.withL_rl, ↓DL.lsOf, ↓DL.wDerL, ↓DL.wFz, ↓DL.wFzR, ↓DL.frzD, ↓DL.wSide, ↓DL.wCatX, ↓DL.dEqA, ↓DL.scalEq, ↓DL.eqB, ↓DL.iLq, ↓DL.iSg, ↓DL.iEn, ↓DL.wM1, ↓DL.isStr, ↓DL.dJoin, ↓DL.dStrip, ↓DL.wSplit, ↓DL.dIntX, ↓DL.dInF, ↓DL.dInS, ↓DL.seqOf, ↓DL.wPar3, ↓DL.wFld, ↓DL.fldD, ↓DL.wSetF, ↓DL.setFD, ↓DL.wAugF, ↓DL.wMeth, ↓DL.recvD, ↓DL.wMake, ↓DL.fillP, ↓DL.wAsg2, ↓DL.gFldD, ↓DL.gStD, ↓DL.starV, ↓DL.gCs, ↓DL.gNl, ↓DL.gTp, Nat.add_zero, List.append_nil, List.zipWith_nil_left, List.zipWith_cons_cons, List.getD_cons_zero, ↓DL.wYes, reduceCtorEq, ↓DL.dEqX, ↓DL.dInD, DL.dataS_rl, DL.dataS_tup, DL.dataS_int, DL.dataS_str, DL.dataS_non, DL.dataD_nil, DL.dataD_ti, DL.dataD_li, ↓DL.isL2, ↓DL.dCountX, ↓DL.dIndexX, Option.isSome_some, ↓DL.dStrX, sup_same, f0, f1, Int.reduceNeg, g0, g1, g2, g3, dTupOf]
                  have e2 : rdLog rs 0 = comb (done ++ [q]) (rdLog (rs.drop (done ++ [q]).length) (done ++ [q]).length) := by
                    rw [er]
                    simp only [rdLog, rt, List.length_append, List.length_singleton]
                    cases rdLog (rs.drop (done.length + 1)) (done.length + 1) <;> simp [comb]
                  (repeat refine And.intro (by first | exact True.intro | assumption | omega | (rw [sizeLine_eq]; omega) | rfl | (simp; omega) | (simp; rw [sizeLine_eq]; omega)) ?_)
                  refine nx _ _ ⟨done ++ [q], m, _, _, _, by simp; omega, e2, by simp, rfl, ?_⟩
                  rw [sup_sup, List.map_append]
                  rfl
                · rw [if_pos (by simp; omega)]
                  exact b3 (by rw [rt, if_neg (fun z => q3 z.2.2)])
              · rw [if_neg (by simp; omega)]
                exact b3 (by rw [rt, if_neg (fun z => q2 z.2.1)])
            · rw [if_pos (by simp [q1])]
              exact b3 (by rw [rt, if_neg (fun z => q1 z.1)])
    · intro NX hn
      unfold rowsOf at hn
      simp only [↓DL.wSeq_nx, ↓DL.wSlT, ↓DL.wNo, ↓DL.wPart, ↓DL.dSlT, ↓DL.dCat, ↓DL.dListT, ↓DL.wFor, ↓DL.iR1, ↓DL.iR2, ↓DL.iTp, ↓DL.iLs, ↓DL.iNw, ↓DL.iLn, ↓DL.wNext, ↓DL.wIf, ↓DL.wRet, ↓DL.wRetN, ↓DL.wDrop, ↓DL.wAsg, ↓DL.gNm, ↓DL.wPar, ↓DL.wVar, ↓DL.wC, ↓DL.wOp, ↓DL.wUn, ↓DL.wTst, ↓DL.wChain, ↓DL.wAnd, ↓DL.wOr, ↓DL.wNot, ↓DL.wAndV, ↓DL.wOrV, ↓DL.wNotV, ↓DL.wIfE, ↓DL.wNil, ↓DL.wCons, ↓DL.wTup, ↓DL.wLst, ↓DL.wNew, ↓DL.wDer, ↓DL.wVL, ↓DL.wVLL, ↓DL.wALL, ↓DL.wCall, ↓DL.wIsa, ↓DL.wRaise, ↓DL.isB, ↓DL.dI0, ↓DL.dI, ↓DL.dU, ↓DL.dLen, ↓DL.dIx, ↓DL.gSubD, ↓DL.setD, ↓DL.wBM, ↓DL.isL, ↓DL.onL, ↓DL.dPopAt, ↓DL.dAppend, ↓DL.wIxV, ↓DL.wEqVL, ↓DL.wEqL, ↓DL.dEqS, ↓DL.dNeS, ↓DL.startD, List.map_cons, List.map_nil, List.length_cons, List.length_nil, List.cons_append, List.nil_append, List.replicate_succ, List.replicate_zero, List.getElem?_cons_zero, List.getElem?_cons_succ, List.set_cons_zero, List.set_cons_succ, Nat.reduceAdd, Nat.reduceSub, Nat.sub_self, ↓DL.kindD, ↓DL.dIsN, ↓DL.dNotN, ↓DL.isaB, String.reduceBEq, Bool.or_false, Bool.false_or, Bool.true_or, Bool.or_true, Bool.and_true, Bool.and_false, Bool.true_and, Bool.false_and, decide_true, decide_false, ↓DL.isNon, if_true, if_false, Bool.not_true, Bool.not_false, Bool.false_eq_true, reduceIte, true_and, and_true, ↓DL.dAddX, ↓DL.dMulX, ↓DL.dIxX, ↓DL.wSlX, ↓DL.dSlX, ↓DL.wSlL2, ↓DL.withL_rl, ↓DL.lsOf, ↓DL.wDerL, ↓DL.wFz, ↓DL.wFzR, ↓DL.frzD, ↓DL.wSide, ↓DL.wCatX, ↓DL.dEqA, ↓DL.scalEq, ↓DL.eqB, ↓DL.iLq, ↓DL.iSg, ↓DL.iEn, ↓DL.wM1, ↓DL.isStr, ↓DL.dJoin, ↓DL.dStrip, ↓DL.wSplit, ↓DL.dIntX, ↓DL.dInF, ↓DL.dInS, ↓DL.seqOf, ↓DL.wPar3, ↓DL.wFld, ↓DL.fldD, ↓DL.wSetF, ↓DL.setFD, ↓DL.wAugF, ↓DL.wMeth, ↓DL.recvD, ↓DL.wMake, ↓DL.fillP, ↓DL.wAsg2, ↓DL.gFldD, ↓DL.gStD, ↓DL.starV, ↓DL.gCs, ↓DL.gNl, ↓DL.gTp, Nat.add_zero, List.append_nil, List.zipWith_nil_left, List.zipWith_cons_cons, List.getD_cons_zero, ↓DL.wYes, reduceCtorEq, ↓DL.dEqX, ↓DL.dInD, DL.dataS_rl, DL.dataS_tup, DL.dataS_int, DL.dataS_str, DL.dataS_non, DL.dataD_nil, DL.dataD_ti, DL.dataD_li, ↓DL.isL2, ↓DL.dCountX, ↓DL.dIndexX, Option.isSome_some, ↓DL.dStrX]
      by_cases e : x = ""
      · rw [if_pos e] at hn
        rw [if_neg (by simp [e])]
        exact ⟨Nat.zero_le _, hn _ _ ⟨rfl, rfl⟩⟩
      · rw [if_neg e] at hn
        rw [if_pos (by simp [e])]
        exact ⟨⟨by decide, by rw [sizeLine_eq]; omega⟩, hn _ _ ⟨rfl, rfl⟩⟩
--CUT
/-! ### a text is spoilt -/
def Wd (r : List Str) : Nat := (r.map fun p => p.length + 1).sum
def Vw (r : List Str) : Nat := if r = [] then 1 else Wd r
theorem join_one {y : Str} (h : y.length = 1) : ∀ ps : List Str, (Txt.join y ps).length + 1 = Vw ps
  | [] => rfl
  | [x] => by rw [TL.join_eq]; unfold Vw Wd; simp [Str.join]
  | x :: z :: r => by
    have ih := join_one h (z :: r)
    rw [TL.join_eq] at ih ⊢
    have e : (Str.join y (x :: z :: r)).length = x.length + y.length + (Str.join y (z :: r)).length := by
      show (x ++ y ++ Str.join y (z :: r)).length = _
      have l : ∀ a b : Str, (a ++ b).length = a.length + b.length := fun a b => by
        show (a.cps ++ b.cps).size = _
        exact Array.size_append
      rw [l, l]
    rw [e, h]
    unfold Vw Wd at *
    rw [if_neg (by simp)] at ih ⊢
    simp only [List.map_cons, List.sum_cons] at ih ⊢
    omega
theorem Vw_le (r : List Str) : Vw r ≤ Wd r + 1 := by
  unfold Vw
  split <;> omega
theorem Wd_le (r : List Str) : Wd r ≤ Vw r := by
  unfold Vw
  split
  · rename_i e; rw [e]; decide
  · omega
theorem Wd_app (a b : List Str) : Wd (a ++ b) = Wd a + Wd b := by unfold Wd; rw [List.map_append, List.sum_append]
theorem Wd_take (r : List Str) (i : Nat) : Wd (r.take i) ≤ Wd r := sum_take _ r i
theorem Wd_drop (r : List Str) (i : Nat) : Wd (r.drop i) ≤ Wd r := sum_drop _ r i
theorem Wd_cut (r : List Str) (i : Nat) : Wd (r.take i) + Wd (r.drop i) = Wd r := sum_cut _ r i
theorem len_Wd (r : List Str) : r.length ≤ Wd r := len_sum r
def rowsD (rows : List (List Str)) : List D := rows.map fun r => .rl (r.map D.str)
def Vs (rows : List (List Str)) : Nat := (rows.map Vw).sum
theorem Vs_app (a b : List (List Str)) : Vs (a ++ b) = Vs a + Vs b := by unfold Vs; rw [List.map_append, List.sum_append]
theorem len_Vs : ∀ rows : List (List Str), rows.length ≤ Vs rows
  | [] => by simp
  | r :: rows => by
    have := len_Vs rows
    have h1 : 1 ≤ Vw r := by
      unfold Vw
      split
      · omega
      · rename_i e
        have := len_Wd r
        have : 0 < r.length := List.length_pos_iff.mpr e
        omega
    unfold Vs at *
    simp only [List.map_cons, List.sum_cons, List.length_cons]
    omega
def textOf (rows : List (List Str)) : Str := Txt.join "\n" (rows.map (Txt.join " "))
theorem text_len (rows : List (List Str)) : (textOf rows).length ≤ Vs rows := by
  have h := join_one (y := "\n") rfl (rows.map (Txt.join " "))
  have e : Wd (rows.map (Txt.join " ")) = Vs rows := by
    unfold Wd Vs
    rw [List.map_map]
    exact congrArg List.sum (List.map_congr_left fun r _ => join_one (y := " ") rfl r)
  have := Vw_le (rows.map (Txt.join " "))
  unfold textOf
  omega
def rows0 (x : Str) : List (List Str) := (Txt.split x "\n").map fun l => Txt.split l " "
theorem rows0_Vs (x : Str) : Vs (rows0 x) = x.length + 1 := by
  unfold Vs rows0
  rw [List.map_map, ← split_sum x sepN]
  refine congrArg List.sum (List.map_congr_left fun l _ => ?_)
  show Vw (Txt.split l " ") = _
  unfold Vw Wd
  rw [if_neg (split_ne l sepB), split_sum l sepB]
theorem Wd_sum : ∀ r : List Str, (r.map fun p => p.length).sum + r.length * 1 = Wd r
  | [] => rfl
  | x :: r => by
    have := Wd_sum r
    unfold Wd at *
    simp only [List.map_cons, List.sum_cons, List.length_cons]
    omega
theorem Vs_text (rows : List (List Str)) : Wd (rows.map (Txt.join " ")) = Vs rows := by
  unfold Wd Vs
  rw [List.map_map]
  exact congrArg List.sum (List.map_congr_left fun r _ => join_one (y := " ") rfl r)
theorem cutS_to {r : List Str} {k : Int} (h : 0 ≤ k) (hk : k ≤ r.length) : DL.cutD (r.map D.str) none (some k) = (r.take k.toNat).map D.str := cut_upto h hk
theorem cutS_from {r : List Str} {k : Int} (h : 0 ≤ k) : DL.cutD (r.map D.str) (some k) none = (r.drop k.toNat).map D.str := by rw [cut_drop h, List.map_drop]
theorem cutR_to {r : List (List Str)} {k : Int} (h : 0 ≤ k) (hk : k ≤ r.length) : DL.cutD (rowsD r) none (some k) = rowsD (r.take k.toNat) := cut_upto h hk
theorem cutR_from {r : List (List Str)} {k : Int} (h : 0 ≤ k) : DL.cutD (rowsD r) (some k) none = rowsD (r.drop k.toNat) := by unfold rowsD; rw [cut_drop h, List.map_drop]
theorem rowsD_app (a b : List (List Str)) : rowsD a ++ rowsD b = rowsD (a ++ b) := by unfold rowsD; rw [List.map_append]
theorem rowsD_len (a : List (List Str)) : (rowsD a).length = a.length := by unfold rowsD; rw [List.length_map]
def sp_lspoilt : SpD := fun ds S Q _ => ∃ (b : Addr) (x : Str), ds = [.ref b, .str x] ∧ S b = some .box ∧ x.length ≤ 5000 ∧ ∀ y : Str, y.length ≤ 2 * x.length + 10 → Q (.str y) S
--LST _law_spoilt | _law_row
--LST _law_spoilt | _law_rows
theorem sc__law_spoilt : FnScope ["_law_box", "_law_text", "_law_odd", "_law_rows", "_law_row", "_law_number", "_law_deed", "_law_place", "_law_word", "_law_some"] ["_law_box", "_law_text"] (defScope s__law_spoilt) := ⟨rfl, rfl, rfl, by decide +kernel, rfl, by decide +kernel, by decide +kernel⟩
theorem ok__law_spoilt (G : Def K mg "_law_spoilt" s__law_spoilt ["_law_box", "_law_text"]) (T : Txt K mg) (c__law_take : Cal P w K mg base "_law_take" 1 ["_law_box", "_law_many"] sp_take) : Cal P w K mg base "_law_spoilt" 2 ["_law_box", "_law_text"] sp_lspoilt := by
  refine G.calD sc__law_spoilt (fun ds S Q E h => ?_) fun f cdv A outer s H E hr => ⟨_, (dpss_cons (dps_set (i := 2) sc__law_spoilt.nd rfl (by first | exact Or.inl rfl | exact Or.inr rfl) (dpe_new (dpl_lst (dpa_cons dpe_str (dpa_cons dpe_str (dpa_cons dpe_str (dpa_cons dpe_str (dpa_cons dpe_str (dpa_cons dpe_str (dpa_cons dpe_str (dpa_cons dpe_str (dpa_cons dpe_str (dpa_cons dpe_str (dpa_cons dpe_str (dpa_cons dpe_str (dpa_cons dpe_str (dpa_cons dpe_str (dpa_cons dpe_str (dpa_cons dpe_str (dpa_cons dpe_str dpa_nil))))))))))))))))))))
    (dpss_cons (dps_expr (dpe_bm PySem.F.plainAttrs_list PySem.F.slot_list_append PySem.F.type_list_append mt_append lm_append ty_list (dv 2) (dpa_cons dpe_str dpa_nil)))
    (dpss_cons (dps_setLc (i := 3) (own := [("_law_row", 4)]) rfl sc__law_spoilt.nd rfl rfl (sw_true rfl rfl rfl (by rfl)) (dpi_new (dpl_split (dv 1) dpe_str)) (blkOk_by (own := [("_law_row", 4)]) (by rfl)) (fun _ _ _ _ _ => (dpg_name (vs := [4]) (i := 4) sc__law_spoilt.nd rfl (by first | exact Or.inl rfl | exact Or.inr rfl) (by decide))) (fun _ _ _ _ _ => dpts_nil) (fun _ _ _ _ _ => (dpe_fz (dpl_split (dv 4) dpe_str))))
    (dpss_cons (dps_par (i := 5) (j := 6) rfl sc__law_spoilt.nd rfl rfl (by decide) rfl rfl (dpa_cons (dpe_cal c__law_take hr (by first | decide | omega) rfl (takes_of rfl rfl rfl rfl) (dpa_cons (dv 0) (dpa_cons (dpe_ba call_len lc_len rfl T.b_len bb_len (dpa_cons (dv 3) dpa_nil)) dpa_nil))) (dpa_cons (dpe_cal c__law_take hr (by first | decide | omega) rfl (takes_of rfl rfl rfl rfl) (dpa_cons (dv 0) (dpa_cons dpe_int dpa_nil))) dpa_nil)) (by rfl))
    (dpss_cons (dps_set (i := 4) sc__law_spoilt.nd rfl (by first | exact Or.inl rfl | exact Or.inr rfl) (dpe_ixX (dv 3) (dv 5) (fun _ _ => rfl)))
    (dpss_cons (dps_par (i := 7) (j := 8) rfl sc__law_spoilt.nd rfl rfl (by decide) rfl rfl (dpa_cons (dpe_cal c__law_take hr (by first | decide | omega) rfl (takes_of rfl rfl rfl rfl) (dpa_cons (dv 0) (dpa_cons (dpe_op op_addX lr_addX (dpe_ba call_len lc_len rfl T.b_len bb_len (dpa_cons (dv 4) dpa_nil)) dpe_int) dpa_nil))) (dpa_cons (dpe_ixX (dv 2) (dpe_cal c__law_take hr (by first | decide | omega) rfl (takes_of rfl rfl rfl rfl) (dpa_cons (dv 0) (dpa_cons dpe_int dpa_nil))) (fun _ _ => rfl)) dpa_nil)) (by rfl))
    (dpss_cons (dps_if (dpt_cmp op_lt lr_cmp (dv 6) dpe_int (nomark _)) (dpss_one (dps_asg (dpe_fz (dpl_catX (psd_new (dpl_catX (psd_new (dpl_slX (dv 4) dpo_none (dpo_some (dv 7)))) (psd_new (dpl_lst (dpa_cons (dv 8) dpa_nil))))) (psd_new (dpl_slX (dv 4) (dpo_some (dpe_op op_addX lr_addX (dv 7) (dpe_op op_fdivW lr_intC (dv 6) dpe_int))) dpo_none)))) (dpg_sub (vv := []) (dv 3) (dv 5)))) (dpss_one (dps_if (dpt_cmp (op_eqA (hr.units)) lr_eqA (dv 6) dpe_int (nomark _)) (dpss_one (dps_asg (dpe_fz (dpl_catX (psd_new (dpl_slX (dv 4) dpo_none (dpo_some (dv 7)))) (psd_new (dpl_slX (dv 4) (dpo_some (dpe_op op_addX lr_addX (dv 7) dpe_int)) dpo_none)))) (dpg_sub (vv := []) (dv 3) (dv 5)))) (dpss_one (dps_if (dpt_cmp (op_eqA (hr.units)) lr_eqA (dv 6) dpe_int (nomark _)) (dpss_one (dps_asg (dpe_fz (dpl_catX (psd_new (dpl_slX (dv 4) dpo_none (dpo_some (dv 7)))) (psd_new (dpl_slX (dv 4) (dpo_some (dpe_ba (call_max2 rfl) lc_max2 rfl T.b_max bb_max (dpa_cons dpe_int (dpa_cons (dpe_op op_sub lr_int (dv 7) dpe_int) dpa_nil)))) dpo_none)))) (dpg_sub (vv := []) (dv 3) (dv 5)))) (dpss_one (dps_if (dpt_cmp (op_eqA (hr.units)) lr_eqA (dv 6) dpe_int (nomark _)) (dpss_one (dps_set (i := 3) sc__law_spoilt.nd rfl (by first | exact Or.inl rfl | exact Or.inr rfl) (dpe_new (dpl_catX (psd_new (dpl_catX (psd_new (dpl_slX (dv 3) dpo_none (dpo_some (dv 5)))) (psd_new (dpl_lst (dpa_cons (dpe_fz (dpl_slX (dv 4) dpo_none (dpo_some (dv 7)))) (dpa_cons (dpe_fz (dpl_slX (dv 4) (dpo_some (dv 7)) dpo_none)) dpa_nil)))))) (psd_new (dpl_slX (dv 3) (dpo_some (dpe_op op_addX lr_addX (dv 5) dpe_int)) dpo_none)))))) (dpss_one (dps_set (i := 3) sc__law_spoilt.nd rfl (by first | exact Or.inl rfl | exact Or.inr rfl) (dpe_ifE (dpt_cmp op_gt lr_cmp (dpe_ba call_len lc_len rfl T.b_len bb_len (dpa_cons (dv 3) dpa_nil)) dpe_int (nomark _)) (dpe_new (dpl_catX (psd_new (dpl_slX (dv 3) dpo_none (dpo_some (dv 5)))) (psd_new (dpl_slX (dv 3) (dpo_some (dpe_op op_addX lr_addX (dv 5) dpe_int)) dpo_none)))) (dpe_new (dpl_catX (psd_val (dv 3)) (psd_new (dpl_lst (dpa_cons (dv 4) dpa_nil)))))))))))))))
    (dpss_one (dps_ret (dpe_sm PySem.F.slot_str_join PySem.F.type_str_join mt_join lm_join dpe_str (dpe_fz (dpl_lc (own := [("_law_some", 9)]) rfl sc__law_spoilt.nd (dpi_lq (dv 3)) (blkOk_by (own := [("_law_some", 9)]) (by rfl)) (fun _ _ _ _ _ => (dpg_name (vs := [9]) (i := 9) sc__law_spoilt.nd rfl (by first | exact Or.inl rfl | exact Or.inr rfl) (by decide))) (fun _ _ _ _ _ => dpts_nil) (fun _ _ _ _ _ => (dpe_sm PySem.F.slot_str_join PySem.F.type_str_join mt_join lm_join dpe_str (dv 9))))))))))))))), ?_⟩
  · obtain ⟨b, x, rfl, _⟩ := h; rfl
  · rintro ds S Q ED ⟨b, x, rfl, eb, lx, h2⟩
    simp only [↓DL.wSeq_nx, ↓DL.wSlT, ↓DL.wNo, ↓DL.wPart, ↓DL.dSlT, ↓DL.dCat, ↓DL.dListT, ↓DL.wFor, ↓DL.iR1, ↓DL.iR2, ↓DL.iTp, ↓DL.iLs, ↓DL.iNw, ↓DL.iLn, ↓DL.wNext, ↓DL.wIf, ↓DL.wRet, ↓DL.wRetN, ↓DL.wDrop, ↓DL.wAsg, ↓DL.gNm, ↓DL.wPar, ↓DL.wVar, ↓DL.wC, ↓DL.wOp, ↓DL.wUn, ↓DL.wTst, ↓DL.wChain, ↓DL.wAnd, ↓DL.wOr, ↓DL.wNot, ↓DL.wAndV, ↓DL.wOrV, ↓DL.wNotV, ↓DL.wIfE, ↓DL.wNil, ↓DL.wCons, ↓DL.wTup, ↓DL.wLst, ↓DL.wNew, ↓DL.wDer, ↓DL.wVL, ↓DL.wVLL, ↓DL.wALL, ↓DL.wCall, ↓DL.wIsa, ↓DL.wRaise, ↓DL.isB, ↓DL.dI0, ↓DL.dI, ↓DL.dU, ↓DL.dLen, ↓DL.dIx, ↓DL.gSubD, ↓DL.setD, ↓DL.wBM, ↓DL.isL, ↓DL.onL, ↓DL.dPopAt, ↓DL.dAppend, ↓DL.wIxV, ↓DL.wEqVL, ↓DL.wEqL, ↓DL.dEqS, ↓DL.dNeS, ↓DL.startD, List.map_cons, List.map_nil, List.length_cons, List.length_nil, List.cons_append, List.nil_append, List.replicate_succ, List.replicate_zero, List.getElem?_cons_zero, List.getElem?_cons_succ, List.set_cons_zero, List.set_cons_succ, Nat.reduceAdd, Nat.reduceSub, Nat.sub_self, ↓DL.kindD, ↓DL.dIsN, ↓DL.dNotN, ↓DL.isaB, String.reduceBEq, Bool.or_false, Bool.false_or, Bool.true_or, Bool.or_true, Bool.and_true, Bool.and_false, Bool.true_and, Bool.false_and, decide_true, decide_false, ↓DL.isNon, if_true, if_false, Bool.not_true, Bool.not_false, Bool.false_eq_true, reduceIte, true_and, and_true, ↓DL.dAddX, ↓DL.dMulX, ↓DL.dIxX, ↓DL.wSlX, ↓DL.dSlX, ↓DL.wSlL2, ↓DL.withL_rl, ↓DL.lsOf, ↓DL.wDerL, ↓DL.wFz, ↓DL.wFzR, ↓DL.frzD, ↓DL.wSide, ↓DL.wCatX, ↓DL.dEqA, ↓DL.scalEq, ↓DL.eqB, ↓DL.iLq, ↓DL.iSg, ↓DL.iEn, ↓DL.wM1, ↓DL.isStr, ↓DL.dJoin, ↓DL.dStrip, ↓DL.wSplit, ↓DL.dIntX, ↓DL.dInF, ↓DL.dInS, ↓DL.seqOf, ↓DL.wPar3, ↓DL.wFld, ↓DL.fldD, ↓DL.wSetF, ↓DL.setFD, ↓DL.wAugF, ↓DL.wMeth, ↓DL.recvD, ↓DL.wMake, ↓DL.fillP, ↓DL.wAsg2, ↓DL.gFldD, ↓DL.gStD, ↓DL.starV, ↓DL.gCs, ↓DL.gNl, ↓DL.gTp, Nat.add_zero, List.append_nil, List.zipWith_nil_left, List.zipWith_cons_cons, List.getD_cons_zero, ↓DL.wYes, reduceCtorEq, ↓DL.dEqX, ↓DL.dInD, DL.dataS_rl, DL.dataS_tup, DL.dataS_int, DL.dataS_str, DL.dataS_non, DL.dataD_nil, DL.dataD_ti, DL.dataD_li, ↓DL.isL2, ↓DL.dCountX, ↓DL.dIndexX, Option.isSome_some, ↓DL.dStrX, ↓wLc]
    (repeat refine And.intro (by first | exact True.intro | assumption | omega | (rw [sizeLine_eq]; omega) | rfl | (simp; omega) | (simp; rw [sizeLine_eq]; omega)) ?_)
    intro p hp
    unfold Nx
    simp only [↓DL.wSeq_nx, ↓DL.wSlT, ↓DL.wNo, ↓DL.wPart, ↓DL.dSlT, ↓DL.dCat, ↓DL.dListT, ↓DL.wFor, ↓DL.iR1, ↓DL.iR2, ↓DL.iTp, ↓DL.iLs, ↓DL.iNw, ↓DL.iLn, ↓DL.wNext, ↓DL.wIf, ↓DL.wRet, ↓DL.wRetN, ↓DL.wDrop, ↓DL.wAsg, ↓DL.gNm, ↓DL.wPar, ↓DL.wVar, ↓DL.wC, ↓DL.wOp, ↓DL.wUn, ↓DL.wTst, ↓DL.wChain, ↓DL.wAnd, ↓DL.wOr, ↓DL.wNot, ↓DL.wAndV, ↓DL.wOrV, ↓DL.wNotV, ↓DL.wIfE, ↓DL.wNil, ↓DL.wCons, ↓DL.wTup, ↓DL.wLst, ↓DL.wNew, ↓DL.wDer, ↓DL.wVL, ↓DL.wVLL, ↓DL.wALL, ↓DL.wCall, ↓DL.wIsa, ↓DL.wRaise, ↓DL.isB, ↓DL.dI0, ↓DL.dI, ↓DL.dU, ↓DL.dLen, ↓DL.dIx, ↓DL.gSubD, ↓DL.setD, ↓DL.wBM, ↓DL.isL, ↓DL.onL, ↓DL.dPopAt, ↓DL.dAppend, ↓DL.wIxV, ↓DL.wEqVL, ↓DL.wEqL, ↓DL.dEqS, ↓DL.dNeS, ↓DL.startD, List.map_cons, List.map_nil, List.length_cons, List.length_nil, List.cons_append, List.nil_append, List.replicate_succ, List.replicate_zero, List.getElem?_cons_zero, List.getElem?_cons_succ, List.set_cons_zero, List.set_cons_succ, Nat.reduceAdd, Nat.reduceSub, Nat.sub_self, ↓DL.kindD, ↓DL.dIsN, ↓DL.dNotN, ↓DL.isaB, String.reduceBEq, Bool.or_false, Bool.false_or, Bool.true_or, Bool.or_true, Bool.and_true, Bool.and_false, Bool.true_and, Bool.false_and, decide_true, decide_false, ↓DL.isNon, if_true, if_false, Bool.not_true, Bool.not_false, Bool.false_eq_true, reduceIte, true_and, and_true, ↓DL.dAddX, ↓DL.dMulX, ↓DL.dIxX, ↓DL.wSlX, ↓DL.dSlX, ↓DL.wSlL2, ↓DL.withL_rl, ↓DL.lsOf, ↓DL.wDerL, ↓DL.wFz, ↓DL.wFzR, ↓DL.frzD, ↓DL.wSide, ↓DL.wCatX, ↓DL.dEqA, ↓DL.scalEq, ↓DL.eqB, ↓DL.iLq, ↓DL.iSg, ↓DL.iEn, ↓DL.wM1, ↓DL.isStr, ↓DL.dJoin, ↓DL.dStrip, ↓DL.wSplit, ↓DL.dIntX, ↓DL.dInF, ↓DL.dInS, ↓DL.seqOf, ↓DL.wPar3, ↓DL.wFld, ↓DL.fldD, ↓DL.wSetF, ↓DL.setFD, ↓DL.wAugF, ↓DL.wMeth, ↓DL.recvD, ↓DL.wMake, ↓DL.fillP, ↓DL.wAsg2, ↓DL.gFldD, ↓DL.gStD, ↓DL.starV, ↓DL.gCs, ↓DL.gNl, ↓DL.gTp, Nat.add_zero, List.append_nil, List.zipWith_nil_left, List.zipWith_cons_cons, List.getD_cons_zero, ↓DL.wYes, reduceCtorEq, ↓DL.dEqX, ↓DL.dInD, DL.dataS_rl, DL.dataS_tup, DL.dataS_int, DL.dataS_str, DL.dataS_non, DL.dataD_nil, DL.dataD_ti, DL.dataD_li, ↓DL.isL2, ↓DL.dCountX, ↓DL.dIndexX, Option.isSome_some, ↓DL.dStrX, sup_same]
    (repeat refine And.intro (by first | exact True.intro | assumption | omega | (rw [sizeLine_eq]; omega) | rfl | (simp; omega) | (simp; rw [sizeLine_eq]; omega)) ?_)
    rw [sup_sup]
    generalize eo : ([D.str "put", .str "0", .str "1", .str "9", .str "999", .str "1000", .str "9999", .str "10000", .str "-1", .str "-0", .str "00", .str "01", .str "", .str "x", .str "Put", .str "-", .str "-999", .str "--1"] : List D) = odd
    have ho : ∀ k : Int, 0 ≤ k → k < 18 → ∃ z : Str, atI odd k = some (.str z) ∧ z.length ≤ 5 := by
      intro k k0 k1
      have hd : (([("put" : Str), "0", "1", "9", "999", "1000", "9999", "10000", "-1", "-0", "00", "01", "", "x", "Put", "-", "-999", "--1"] : List Str)).all (fun z => decide (z.length ≤ 5)) = true := by decide
      have hl : k.toNat < ([("put" : Str), "0", "1", "9", "999", "1000", "9999", "10000", "-1", "-0", "00", "01", "", "x", "Put", "-", "-999", "--1"] : List Str).length := by simp; omega
      refine ⟨_, ?_, of_decide_eq_true (List.all_eq_true.mp hd _ (List.getElem_mem hl))⟩
      rw [← eo]
      have := atI_map (xs := ([("put" : Str), "0", "1", "9", "999", "1000", "9999", "10000", "-1", "-0", "00", "01", "", "x", "Put", "-", "-999", "--1"] : List Str)) (f := D.str) k0 (by simp; omega)
      exact this
    clear eo
    simp only [↓DL.wSeq_nx, ↓DL.wSlT, ↓DL.wNo, ↓DL.wPart, ↓DL.dSlT, ↓DL.dCat, ↓DL.dListT, ↓DL.wFor, ↓DL.iR1, ↓DL.iR2, ↓DL.iTp, ↓DL.iLs, ↓DL.iNw, ↓DL.iLn, ↓DL.wNext, ↓DL.wIf, ↓DL.wRet, ↓DL.wRetN, ↓DL.wDrop, ↓DL.wAsg, ↓DL.gNm, ↓DL.wPar, ↓DL.wVar, ↓DL.wC, ↓DL.wOp, ↓DL.wUn, ↓DL.wTst, ↓DL.wChain, ↓DL.wAnd, ↓DL.wOr, ↓DL.wNot, ↓DL.wAndV, ↓DL.wOrV, ↓DL.wNotV, ↓DL.wIfE, ↓DL.wNil, ↓DL.wCons, ↓DL.wTup, ↓DL.wLst, ↓DL.wNew, ↓DL.wDer, ↓DL.wVL, ↓DL.wVLL, ↓DL.wALL, ↓DL.wCall, ↓DL.wIsa, ↓DL.wRaise, ↓DL.isB, ↓DL.dI0, ↓DL.dI, ↓DL.dU, ↓DL.dLen, ↓DL.dIx, ↓DL.gSubD, ↓DL.setD, ↓DL.wBM, ↓DL.isL, ↓DL.onL, ↓DL.dPopAt, ↓DL.dAppend, ↓DL.wIxV, ↓DL.wEqVL, ↓DL.wEqL, ↓DL.dEqS, ↓DL.dNeS, ↓DL.startD, List.map_cons, List.map_nil, List.length_cons, List.length_nil, List.cons_append, List.nil_append, List.replicate_succ, List.replicate_zero, List.getElem?_cons_zero, List.getElem?_cons_succ, List.set_cons_zero, List.set_cons_succ, Nat.reduceAdd, Nat.reduceSub, Nat.sub_self, ↓DL.kindD, ↓DL.dIsN, ↓DL.dNotN, ↓DL.isaB, String.reduceBEq, Bool.or_false, Bool.false_or, Bool.true_or, Bool.or_true, Bool.and_true, Bool.and_false, Bool.true_and, Bool.false_and, decide_true, decide_false, ↓DL.isNon, if_true, if_false, Bool.not_true, Bool.not_false, Bool.false_eq_true, reduceIte, true_and, and_true, ↓DL.dAddX, ↓DL.dMulX, ↓DL.dIxX, ↓DL.wSlX, ↓DL.dSlX, ↓DL.wSlL2, ↓DL.withL_rl, ↓DL.lsOf, ↓DL.wDerL, ↓DL.wFz, ↓DL.wFzR, ↓DL.frzD, ↓DL.wSide, ↓DL.wCatX, ↓DL.dEqA, ↓DL.scalEq, ↓DL.eqB, ↓DL.iLq, ↓DL.iSg, ↓DL.iEn, ↓DL.wM1, ↓DL.isStr, ↓DL.dJoin, ↓DL.dStrip, ↓DL.wSplit, ↓DL.dIntX, ↓DL.dInF, ↓DL.dInS, ↓DL.seqOf, ↓DL.wPar3, ↓DL.wFld, ↓DL.fldD, ↓DL.wSetF, ↓DL.setFD, ↓DL.wAugF, ↓DL.wMeth, ↓DL.recvD, ↓DL.wMake, ↓DL.fillP, ↓DL.wAsg2, ↓DL.gFldD, ↓DL.gStD, ↓DL.starV, ↓DL.gCs, ↓DL.gNl, ↓DL.gTp, Nat.add_zero, List.append_nil, List.zipWith_nil_left, List.zipWith_cons_cons, List.getD_cons_zero, ↓DL.wYes, reduceCtorEq, ↓DL.dEqX, ↓DL.dInD, DL.dataS_rl, DL.dataS_tup, DL.dataS_int, DL.dataS_str, DL.dataS_non, DL.dataD_nil, DL.dataD_ti, DL.dataD_li, ↓DL.isL2, ↓DL.dCountX, ↓DL.dIndexX, Option.isSome_some, ↓DL.dStrX, ↓wLc]
    refine ⟨⟨by decide, by rw [sizeLine_eq]; omega⟩, ?_⟩
    have sl := split_len x sepN
    refine lcW_map (fun d => match d with | .str l => .rl ((Txt.split l " ").map D.str) | _ => .non) trivial (by simp; rw [sizeLine_eq]; omega) (fun d hd Kt Z k => ?_) ?_
    · obtain ⟨l, hl, rfl⟩ := List.mem_map.mp hd
      have := split_mem sepN hl
      simp only [↓DL.wSeq, ↓DL.wSlT, ↓DL.wNo, ↓DL.wPart, ↓DL.dSlT, ↓DL.dCat, ↓DL.dListT, ↓DL.wFor, ↓DL.iR1, ↓DL.iR2, ↓DL.iTp, ↓DL.iLs, ↓DL.iNw, ↓DL.iLn, ↓DL.wNext, ↓DL.wIf, ↓DL.wRet, ↓DL.wRetN, ↓DL.wDrop, ↓DL.wAsg, ↓DL.gNm, ↓DL.wPar, ↓DL.wVar, ↓DL.wC, ↓DL.wOp, ↓DL.wUn, ↓DL.wTst, ↓DL.wChain, ↓DL.wAnd, ↓DL.wOr, ↓DL.wNot, ↓DL.wAndV, ↓DL.wOrV, ↓DL.wNotV, ↓DL.wIfE, ↓DL.wNil, ↓DL.wCons, ↓DL.wTup, ↓DL.wLst, ↓DL.wNew, ↓DL.wDer, ↓DL.wVL, ↓DL.wVLL, ↓DL.wALL, ↓DL.wCall, ↓DL.wIsa, ↓DL.wRaise, ↓DL.isB, ↓DL.dI0, ↓DL.dI, ↓DL.dU, ↓DL.dLen, ↓DL.dIx, ↓DL.gSubD, ↓DL.setD, ↓DL.wBM, ↓DL.isL, ↓DL.onL, ↓DL.dPopAt, ↓DL.dAppend, ↓DL.wIxV, ↓DL.wEqVL, ↓DL.wEqL, ↓DL.dEqS, ↓DL.dNeS, ↓DL.startD, List.map_cons, List.map_nil, List.length_cons, List.length_nil, List.cons_append, List.nil_append, List.replicate_succ, List.replicate_zero, List.getElem?_cons_zero, List.getElem?_cons_succ, List.set_cons_zero, List.set_cons_succ, Nat.reduceAdd, Nat.reduceSub, Nat.sub_self, ↓DL.kindD, ↓DL.dIsN, ↓DL.dNotN, ↓DL.isaB, String.reduceBEq, Bool.or_false, Bool.false_or, Bool.true_or, Bool.or_true, Bool.and_true, Bool.and_false, Bool.true_and, Bool.false_and, decide_true, decide_false, ↓DL.isNon, if_true, if_false, Bool.not_true, Bool.not_false, Bool.false_eq_true, reduceIte, true_and, and_true, ↓DL.dAddX, ↓DL.dMulX, ↓DL.dIxX, ↓DL.wSlX, ↓DL.dSlX, ↓DL.wSlL2, ↓DL.withL_rl, ↓DL.lsOf, ↓DL.wDerL, ↓DL.wFz, ↓DL.wFzR, ↓DL.frzD, ↓DL.wSide, ↓DL.wCatX, ↓DL.dEqA, ↓DL.scalEq, ↓DL.eqB, ↓DL.iLq, ↓DL.iSg, ↓DL.iEn, ↓DL.wM1, ↓DL.isStr, ↓DL.dJoin, ↓DL.dStrip, ↓DL.wSplit, ↓DL.dIntX, ↓DL.dInF, ↓DL.dInS, ↓DL.seqOf, ↓DL.wPar3, ↓DL.wFld, ↓DL.fldD, ↓DL.wSetF, ↓DL.setFD, ↓DL.wAugF, ↓DL.wMeth, ↓DL.recvD, ↓DL.wMake, ↓DL.fillP, ↓DL.wAsg2, ↓DL.gFldD, ↓DL.gStD, ↓DL.starV, ↓DL.gCs, ↓DL.gNl, ↓DL.gTp, Nat.add_zero, List.append_nil, List.zipWith_nil_left, List.zipWith_cons_cons, List.getD_cons_zero, ↓DL.wYes, reduceCtorEq, ↓DL.dEqX, ↓DL.dInD, DL.dataS_rl, DL.dataS_tup, DL.dataS_int, DL.dataS_str, DL.dataS_non, DL.dataD_nil, DL.dataD_ti, DL.dataD_li, ↓DL.isL2, ↓DL.dCountX, ↓DL.dIndexX, Option.isSome_some, ↓DL.dStrX, wipeD]
      exact ⟨⟨by decide, by rw [sizeLine_eq]; omega⟩, k⟩
    have er : ((Txt.split x "\n").map D.str).map (fun d => match d with | .str l => D.rl ((Txt.split l " ").map D.str) | _ => .non) = rowsD (rows0 x) := by
      unfold rowsD rows0
      rw [List.map_map, List.map_map]
      rfl
    rw [List.nil_append, er]
    have v0 := rows0_Vs x
    have ne0 : 0 < (rows0 x).length := by
      unfold rows0
      rw [List.length_map]
      exact List.length_pos_iff.mpr (split_ne x sepN)
    generalize rows0 x = rows at v0 ne0
    have lv := len_Vs rows
    intro q hq
    have pq : p ≠ q := fun z => by rw [z, sup_same] at hq; cases hq
    have nq : S q = none := by rwa [sup_ne pq.symm] at hq
    have bp : b ≠ p := sne eb hp
    have bq : b ≠ q := sne eb nq
    have J0 : ∃ S1 : Store, S1 = sup (sup S p (.lst odd)) q (.lst (rowsD rows)) ∧ Le S S1 ∧ S1 p = some (.lst odd) ∧ S1 q = some (.lst (rowsD rows)) := ⟨_, rfl, le_upd (le_upd (Le.refl S) hp) nq, by rw [sup_ne pq, sup_same], sup_same⟩
    obtain ⟨S1, e1, le1, ep1, eq1⟩ := J0
    rw [← e1]
    clear e1 hq
    have eb1 := le1 _ _ eb
    have lR : (rowsD rows).length = rows.length := by unfold rowsD; rw [List.length_map]
    simp only [↓DL.wSeq_nx, ↓DL.wSlT, ↓DL.wNo, ↓DL.wPart, ↓DL.dSlT, ↓DL.dCat, ↓DL.dListT, ↓DL.wFor, ↓DL.iR1, ↓DL.iR2, ↓DL.iTp, ↓DL.iLs, ↓DL.iNw, ↓DL.iLn, ↓DL.wNext, ↓DL.wIf, ↓DL.wRet, ↓DL.wRetN, ↓DL.wDrop, ↓DL.wAsg, ↓DL.gNm, ↓DL.wPar, ↓DL.wVar, ↓DL.wC, ↓DL.wOp, ↓DL.wUn, ↓DL.wTst, ↓DL.wChain, ↓DL.wAnd, ↓DL.wOr, ↓DL.wNot, ↓DL.wAndV, ↓DL.wOrV, ↓DL.wNotV, ↓DL.wIfE, ↓DL.wNil, ↓DL.wCons, ↓DL.wTup, ↓DL.wLst, ↓DL.wNew, ↓DL.wDer, ↓DL.wVL, ↓DL.wVLL, ↓DL.wALL, ↓DL.wCall, ↓DL.wIsa, ↓DL.wRaise, ↓DL.isB, ↓DL.dI0, ↓DL.dI, ↓DL.dU, ↓DL.dLen, ↓DL.dIx, ↓DL.gSubD, ↓DL.setD, ↓DL.wBM, ↓DL.isL, ↓DL.onL, ↓DL.dPopAt, ↓DL.dAppend, ↓DL.wIxV, ↓DL.wEqVL, ↓DL.wEqL, ↓DL.dEqS, ↓DL.dNeS, ↓DL.startD, List.map_cons, List.map_nil, List.length_cons, List.length_nil, List.cons_append, List.nil_append, List.replicate_succ, List.replicate_zero, List.getElem?_cons_zero, List.getElem?_cons_succ, List.set_cons_zero, List.set_cons_succ, Nat.reduceAdd, Nat.reduceSub, Nat.sub_self, ↓DL.kindD, ↓DL.dIsN, ↓DL.dNotN, ↓DL.isaB, String.reduceBEq, Bool.or_false, Bool.false_or, Bool.true_or, Bool.or_true, Bool.and_true, Bool.and_false, Bool.true_and, Bool.false_and, decide_true, decide_false, ↓DL.isNon, if_true, if_false, Bool.not_true, Bool.not_false, Bool.false_eq_true, reduceIte, true_and, and_true, ↓DL.dAddX, ↓DL.dMulX, ↓DL.dIxX, ↓DL.wSlX, ↓DL.dSlX, ↓DL.wSlL2, ↓DL.withL_rl, ↓DL.lsOf, ↓DL.wDerL, ↓DL.wFz, ↓DL.wFzR, ↓DL.frzD, ↓DL.wSide, ↓DL.wCatX, ↓DL.dEqA, ↓DL.scalEq, ↓DL.eqB, ↓DL.iLq, ↓DL.iSg, ↓DL.iEn, ↓DL.wM1, ↓DL.isStr, ↓DL.dJoin, ↓DL.dStrip, ↓DL.wSplit, ↓DL.dIntX, ↓DL.dInF, ↓DL.dInS, ↓DL.seqOf, ↓DL.wPar3, ↓DL.wFld, ↓DL.fldD, ↓DL.wSetF, ↓DL.setFD, ↓DL.wAugF, ↓DL.wMeth, ↓DL.recvD, ↓DL.wMake, ↓DL.fillP, ↓DL.wAsg2, ↓DL.gFldD, ↓DL.gStD, ↓DL.starV, ↓DL.gCs, ↓DL.gNl, ↓DL.gTp, Nat.add_zero, List.append_nil, List.zipWith_nil_left, List.zipWith_cons_cons, List.getD_cons_zero, ↓DL.wYes, reduceCtorEq, ↓DL.dEqX, ↓DL.dInD, DL.dataS_rl, DL.dataS_tup, DL.dataS_int, DL.dataS_str, DL.dataS_non, DL.dataD_nil, DL.dataD_ti, DL.dataD_li, ↓DL.isL2, ↓DL.dCountX, ↓DL.dIndexX, Option.isSome_some, ↓DL.dStrX, eq1, sp_take, lR]
    refine ⟨eb1, ⟨by omega, lg9 (by omega) (by omega)⟩, fun num n0 n1 => ⟨eb1, ⟨by decide, by decide⟩, fun deed d0 d1 => ?_⟩⟩
    have hn0 : num.toNat < rows.length := by omega
    have er1 : atI (rowsD rows) num = some (.rl ((rows[num.toNat]).map D.str)) := atI_map (f := fun r : List Str => D.rl (r.map D.str)) n0 (by omega)
    have vr := sum_at Vw hn0
    generalize hrow : rows[num.toNat] = row at er1 vr
    have vr : Vw row ≤ Vs rows := vr
    unfold Nx
    simp only [↓DL.wSeq_nx, ↓DL.wSlT, ↓DL.wNo, ↓DL.wPart, ↓DL.dSlT, ↓DL.dCat, ↓DL.dListT, ↓DL.wFor, ↓DL.iR1, ↓DL.iR2, ↓DL.iTp, ↓DL.iLs, ↓DL.iNw, ↓DL.iLn, ↓DL.wNext, ↓DL.wIf, ↓DL.wRet, ↓DL.wRetN, ↓DL.wDrop, ↓DL.wAsg, ↓DL.gNm, ↓DL.wPar, ↓DL.wVar, ↓DL.wC, ↓DL.wOp, ↓DL.wUn, ↓DL.wTst, ↓DL.wChain, ↓DL.wAnd, ↓DL.wOr, ↓DL.wNot, ↓DL.wAndV, ↓DL.wOrV, ↓DL.wNotV, ↓DL.wIfE, ↓DL.wNil, ↓DL.wCons, ↓DL.wTup, ↓DL.wLst, ↓DL.wNew, ↓DL.wDer, ↓DL.wVL, ↓DL.wVLL, ↓DL.wALL, ↓DL.wCall, ↓DL.wIsa, ↓DL.wRaise, ↓DL.isB, ↓DL.dI0, ↓DL.dI, ↓DL.dU, ↓DL.dLen, ↓DL.dIx, ↓DL.gSubD, ↓DL.setD, ↓DL.wBM, ↓DL.isL, ↓DL.onL, ↓DL.dPopAt, ↓DL.dAppend, ↓DL.wIxV, ↓DL.wEqVL, ↓DL.wEqL, ↓DL.dEqS, ↓DL.dNeS, ↓DL.startD, List.map_cons, List.map_nil, List.length_cons, List.length_nil, List.cons_append, List.nil_append, List.replicate_succ, List.replicate_zero, List.getElem?_cons_zero, List.getElem?_cons_succ, List.set_cons_zero, List.set_cons_succ, Nat.reduceAdd, Nat.reduceSub, Nat.sub_self, ↓DL.kindD, ↓DL.dIsN, ↓DL.dNotN, ↓DL.isaB, String.reduceBEq, Bool.or_false, Bool.false_or, Bool.true_or, Bool.or_true, Bool.and_true, Bool.and_false, Bool.true_and, Bool.false_and, decide_true, decide_false, ↓DL.isNon, if_true, if_false, Bool.not_true, Bool.not_false, Bool.false_eq_true, reduceIte, true_and, and_true, ↓DL.dAddX, ↓DL.dMulX, ↓DL.dIxX, ↓DL.wSlX, ↓DL.dSlX, ↓DL.wSlL2, ↓DL.withL_rl, ↓DL.lsOf, ↓DL.wDerL, ↓DL.wFz, ↓DL.wFzR, ↓DL.frzD, ↓DL.wSide, ↓DL.wCatX, ↓DL.dEqA, ↓DL.scalEq, ↓DL.eqB, ↓DL.iLq, ↓DL.iSg, ↓DL.iEn, ↓DL.wM1, ↓DL.isStr, ↓DL.dJoin, ↓DL.dStrip, ↓DL.wSplit, ↓DL.dIntX, ↓DL.dInF, ↓DL.dInS, ↓DL.seqOf, ↓DL.wPar3, ↓DL.wFld, ↓DL.fldD, ↓DL.wSetF, ↓DL.setFD, ↓DL.wAugF, ↓DL.wMeth, ↓DL.recvD, ↓DL.wMake, ↓DL.fillP, ↓DL.wAsg2, ↓DL.gFldD, ↓DL.gStD, ↓DL.starV, ↓DL.gCs, ↓DL.gNl, ↓DL.gTp, Nat.add_zero, List.append_nil, List.zipWith_nil_left, List.zipWith_cons_cons, List.getD_cons_zero, ↓DL.wYes, reduceCtorEq, ↓DL.dEqX, ↓DL.dInD, DL.dataS_rl, DL.dataS_tup, DL.dataS_int, DL.dataS_str, DL.dataS_non, DL.dataD_nil, DL.dataD_ti, DL.dataD_li, ↓DL.isL2, ↓DL.dCountX, ↓DL.dIndexX, Option.isSome_some, ↓DL.dStrX, eq1, er1]
    have wr := Wd_le row
    have lw := len_Wd row
    unfold Nx
    simp only [↓DL.wSeq_nx, ↓DL.wSlT, ↓DL.wNo, ↓DL.wPart, ↓DL.dSlT, ↓DL.dCat, ↓DL.dListT, ↓DL.wFor, ↓DL.iR1, ↓DL.iR2, ↓DL.iTp, ↓DL.iLs, ↓DL.iNw, ↓DL.iLn, ↓DL.wNext, ↓DL.wIf, ↓DL.wRet, ↓DL.wRetN, ↓DL.wDrop, ↓DL.wAsg, ↓DL.gNm, ↓DL.wPar, ↓DL.wVar, ↓DL.wC, ↓DL.wOp, ↓DL.wUn, ↓DL.wTst, ↓DL.wChain, ↓DL.wAnd, ↓DL.wOr, ↓DL.wNot, ↓DL.wAndV, ↓DL.wOrV, ↓DL.wNotV, ↓DL.wIfE, ↓DL.wNil, ↓DL.wCons, ↓DL.wTup, ↓DL.wLst, ↓DL.wNew, ↓DL.wDer, ↓DL.wVL, ↓DL.wVLL, ↓DL.wALL, ↓DL.wCall, ↓DL.wIsa, ↓DL.wRaise, ↓DL.isB, ↓DL.dI0, ↓DL.dI, ↓DL.dU, ↓DL.dLen, ↓DL.dIx, ↓DL.gSubD, ↓DL.setD, ↓DL.wBM, ↓DL.isL, ↓DL.onL, ↓DL.dPopAt, ↓DL.dAppend, ↓DL.wIxV, ↓DL.wEqVL, ↓DL.wEqL, ↓DL.dEqS, ↓DL.dNeS, ↓DL.startD, List.map_cons, List.map_nil, List.length_cons, List.length_nil, List.cons_append, List.nil_append, List.replicate_succ, List.replicate_zero, List.getElem?_cons_zero, List.getElem?_cons_succ, List.set_cons_zero, List.set_cons_succ, Nat.reduceAdd, Nat.reduceSub, Nat.sub_self, ↓DL.kindD, ↓DL.dIsN, ↓DL.dNotN, ↓DL.isaB, String.reduceBEq, Bool.or_false, Bool.false_or, Bool.true_or, Bool.or_true, Bool.and_true, Bool.and_false, Bool.true_and, Bool.false_and, decide_true, decide_false, ↓DL.isNon, if_true, if_false, Bool.not_true, Bool.not_false, Bool.false_eq_true, reduceIte, true_and, and_true, ↓DL.dAddX, ↓DL.dMulX, ↓DL.dIxX, ↓DL.wSlX, ↓DL.dSlX, ↓DL.wSlL2, ↓DL.withL_rl, ↓DL.lsOf, ↓DL.wDerL, ↓DL.wFz, ↓DL.wFzR, ↓DL.frzD, ↓DL.wSide, ↓DL.wCatX, ↓DL.dEqA, ↓DL.scalEq, ↓DL.eqB, ↓DL.iLq, ↓DL.iSg, ↓DL.iEn, ↓DL.wM1, ↓DL.isStr, ↓DL.dJoin, ↓DL.dStrip, ↓DL.wSplit, ↓DL.dIntX, ↓DL.dInF, ↓DL.dInS, ↓DL.seqOf, ↓DL.wPar3, ↓DL.wFld, ↓DL.fldD, ↓DL.wSetF, ↓DL.setFD, ↓DL.wAugF, ↓DL.wMeth, ↓DL.recvD, ↓DL.wMake, ↓DL.fillP, ↓DL.wAsg2, ↓DL.gFldD, ↓DL.gStD, ↓DL.starV, ↓DL.gCs, ↓DL.gNl, ↓DL.gTp, Nat.add_zero, List.append_nil, List.zipWith_nil_left, List.zipWith_cons_cons, List.getD_cons_zero, ↓DL.wYes, reduceCtorEq, ↓DL.dEqX, ↓DL.dInD, DL.dataS_rl, DL.dataS_tup, DL.dataS_int, DL.dataS_str, DL.dataS_non, DL.dataD_nil, DL.dataD_ti, DL.dataD_li, ↓DL.isL2, ↓DL.dCountX, ↓DL.dIndexX, Option.isSome_some, ↓DL.dStrX, ep1, sp_take, List.length_map]
    refine ⟨eb1, ⟨by omega, lg9 (by omega) (by omega)⟩, fun pl p0 p1 => ⟨eb1, ⟨by decide, by decide⟩, fun k k0 k1 => ?_⟩⟩
    obtain ⟨wd, ew, lwd⟩ := ho k k0 k1
    simp only [↓DL.wSeq_nx, ↓DL.wSlT, ↓DL.wNo, ↓DL.wPart, ↓DL.dSlT, ↓DL.dCat, ↓DL.dListT, ↓DL.wFor, ↓DL.iR1, ↓DL.iR2, ↓DL.iTp, ↓DL.iLs, ↓DL.iNw, ↓DL.iLn, ↓DL.wNext, ↓DL.wIf, ↓DL.wRet, ↓DL.wRetN, ↓DL.wDrop, ↓DL.wAsg, ↓DL.gNm, ↓DL.wPar, ↓DL.wVar, ↓DL.wC, ↓DL.wOp, ↓DL.wUn, ↓DL.wTst, ↓DL.wChain, ↓DL.wAnd, ↓DL.wOr, ↓DL.wNot, ↓DL.wAndV, ↓DL.wOrV, ↓DL.wNotV, ↓DL.wIfE, ↓DL.wNil, ↓DL.wCons, ↓DL.wTup, ↓DL.wLst, ↓DL.wNew, ↓DL.wDer, ↓DL.wVL, ↓DL.wVLL, ↓DL.wALL, ↓DL.wCall, ↓DL.wIsa, ↓DL.wRaise, ↓DL.isB, ↓DL.dI0, ↓DL.dI, ↓DL.dU, ↓DL.dLen, ↓DL.dIx, ↓DL.gSubD, ↓DL.setD, ↓DL.wBM, ↓DL.isL, ↓DL.onL, ↓DL.dPopAt, ↓DL.dAppend, ↓DL.wIxV, ↓DL.wEqVL, ↓DL.wEqL, ↓DL.dEqS, ↓DL.dNeS, ↓DL.startD, List.map_cons, List.map_nil, List.length_cons, List.length_nil, List.cons_append, List.nil_append, List.replicate_succ, List.replicate_zero, List.getElem?_cons_zero, List.getElem?_cons_succ, List.set_cons_zero, List.set_cons_succ, Nat.reduceAdd, Nat.reduceSub, Nat.sub_self, ↓DL.kindD, ↓DL.dIsN, ↓DL.dNotN, ↓DL.isaB, String.reduceBEq, Bool.or_false, Bool.false_or, Bool.true_or, Bool.or_true, Bool.and_true, Bool.and_false, Bool.true_and, Bool.false_and, decide_true, decide_false, ↓DL.isNon, if_true, if_false, Bool.not_true, Bool.not_false, Bool.false_eq_true, reduceIte, true_and, and_true, ↓DL.dAddX, ↓DL.dMulX, ↓DL.dIxX, ↓DL.wSlX, ↓DL.dSlX, ↓DL.wSlL2, ↓DL.withL_rl, ↓DL.lsOf, ↓DL.wDerL, ↓DL.wFz, ↓DL.wFzR, ↓DL.frzD, ↓DL.wSide, ↓DL.wCatX, ↓DL.dEqA, ↓DL.scalEq, ↓DL.eqB, ↓DL.iLq, ↓DL.iSg, ↓DL.iEn, ↓DL.wM1, ↓DL.isStr, ↓DL.dJoin, ↓DL.dStrip, ↓DL.wSplit, ↓DL.dIntX, ↓DL.dInF, ↓DL.dInS, ↓DL.seqOf, ↓DL.wPar3, ↓DL.wFld, ↓DL.fldD, ↓DL.wSetF, ↓DL.setFD, ↓DL.wAugF, ↓DL.wMeth, ↓DL.recvD, ↓DL.wMake, ↓DL.fillP, ↓DL.wAsg2, ↓DL.gFldD, ↓DL.gStD, ↓DL.starV, ↓DL.gCs, ↓DL.gNl, ↓DL.gTp, Nat.add_zero, List.append_nil, List.zipWith_nil_left, List.zipWith_cons_cons, List.getD_cons_zero, ↓DL.wYes, reduceCtorEq, ↓DL.dEqX, ↓DL.dInD, DL.dataS_rl, DL.dataS_tup, DL.dataS_int, DL.dataS_str, DL.dataS_non, DL.dataD_nil, DL.dataD_ti, DL.dataD_li, ↓DL.isL2, ↓DL.dCountX, ↓DL.dIndexX, Option.isSome_some, ↓DL.dStrX, ew]
    unfold Nx
    rw [DL.wSeq_nx]
    refine nx_join (fun σ S' => ∃ (o2 o4 o5 o6 o7 o8 o9 : Option D) (q' : Addr) (rows' : List (List Str)), σ = [some (.ref b), some (.str x), o2, some (.ref q'), o4, o5, o6, o7, o8, o9] ∧ Le S S' ∧ S' q' = some (.lst (rowsD rows')) ∧ Vs rows' ≤ 2 * x.length + 10) ?_ ?_
    · rintro σ S' ⟨o2, o4, o5, o6, o7, o8, o9, q', rows', rfl, le', eq', lv'⟩
      have lr' := len_Vs rows'
      unfold Nx
      simp only [↓DL.wSeq_nx, ↓DL.wSlT, ↓DL.wNo, ↓DL.wPart, ↓DL.dSlT, ↓DL.dCat, ↓DL.dListT, ↓DL.wFor, ↓DL.iR1, ↓DL.iR2, ↓DL.iTp, ↓DL.iLs, ↓DL.iNw, ↓DL.iLn, ↓DL.wNext, ↓DL.wIf, ↓DL.wRet, ↓DL.wRetN, ↓DL.wDrop, ↓DL.wAsg, ↓DL.gNm, ↓DL.wPar, ↓DL.wVar, ↓DL.wC, ↓DL.wOp, ↓DL.wUn, ↓DL.wTst, ↓DL.wChain, ↓DL.wAnd, ↓DL.wOr, ↓DL.wNot, ↓DL.wAndV, ↓DL.wOrV, ↓DL.wNotV, ↓DL.wIfE, ↓DL.wNil, ↓DL.wCons, ↓DL.wTup, ↓DL.wLst, ↓DL.wNew, ↓DL.wDer, ↓DL.wVL, ↓DL.wVLL, ↓DL.wALL, ↓DL.wCall, ↓DL.wIsa, ↓DL.wRaise, ↓DL.isB, ↓DL.dI0, ↓DL.dI, ↓DL.dU, ↓DL.dLen, ↓DL.dIx, ↓DL.gSubD, ↓DL.setD, ↓DL.wBM, ↓DL.isL, ↓DL.onL, ↓DL.dPopAt, ↓DL.dAppend, ↓DL.wIxV, ↓DL.wEqVL, ↓DL.wEqL, ↓DL.dEqS, ↓DL.dNeS, ↓DL.startD, List.map_cons, List.map_nil, List.length_cons, List.length_nil, List.cons_append, List.nil_append, List.replicate_succ, List.replicate_zero, List.getElem?_cons_zero, List.getElem?_cons_succ, List.set_cons_zero, List.set_cons_succ, Nat.reduceAdd, Nat.reduceSub, Nat.sub_self, ↓DL.kindD, ↓DL.dIsN, ↓DL.dNotN, ↓DL.isaB, String.reduceBEq, Bool.or_false, Bool.false_or, Bool.true_or, Bool.or_true, Bool.and_true, Bool.and_false, Bool.true_and, Bool.false_and, decide_true, decide_false, ↓DL.isNon, if_true, if_false, Bool.not_true, Bool.not_false, Bool.false_eq_true, reduceIte, true_and, and_true, ↓DL.dAddX, ↓DL.dMulX, ↓DL.dIxX, ↓DL.wSlX, ↓DL.dSlX, ↓DL.wSlL2, ↓DL.withL_rl, ↓DL.lsOf, ↓DL.wDerL, ↓DL.wFz, ↓DL.wFzR, ↓DL.frzD, ↓DL.wSide, ↓DL.wCatX, ↓DL.dEqA, ↓DL.scalEq, ↓DL.eqB, ↓DL.iLq, ↓DL.iSg, ↓DL.iEn, ↓DL.wM1, ↓DL.isStr, ↓DL.dJoin, ↓DL.dStrip, ↓DL.wSplit, ↓DL.dIntX, ↓DL.dInF, ↓DL.dInS, ↓DL.seqOf, ↓DL.wPar3, ↓DL.wFld, ↓DL.fldD, ↓DL.wSetF, ↓DL.setFD, ↓DL.wAugF, ↓DL.wMeth, ↓DL.recvD, ↓DL.wMake, ↓DL.fillP, ↓DL.wAsg2, ↓DL.gFldD, ↓DL.gStD, ↓DL.starV, ↓DL.gCs, ↓DL.gNl, ↓DL.gTp, Nat.add_zero, List.append_nil, List.zipWith_nil_left, List.zipWith_cons_cons, List.getD_cons_zero, ↓DL.wYes, reduceCtorEq, ↓DL.dEqX, ↓DL.dInD, DL.dataS_rl, DL.dataS_tup, DL.dataS_int, DL.dataS_str, DL.dataS_non, DL.dataD_nil, DL.dataD_ti, DL.dataD_li, ↓DL.isL2, ↓DL.dCountX, ↓DL.dIndexX, Option.isSome_some, ↓DL.dStrX, ↓wLc]
      (repeat refine And.intro (by first | exact True.intro | assumption | omega | (rw [sizeLine_eq]; omega) | rfl | (simp; omega) | (simp; rw [sizeLine_eq]; omega)) ?_)
      refine withL_of (lsOf_ref eq') ?_
      refine lcW_map (fun d => match d with | .rl xs => (match DL.strs? xs with | some ys => .str (Txt.join " " ys) | none => .non) | _ => .non) (lsOf_ref eq') (by rw [rowsD_len, sizeLine_eq]; simp; omega) (fun d hd Kt Z k => ?_) ?_
      · obtain ⟨r, hr, rfl⟩ := List.mem_map.mp hd
        dsimp only at k
        rw [DL.strs_map] at k
        obtain ⟨i, hi, rfl⟩ := List.getElem_of_mem hr
        have w1 := Wd_le rows'[i]
        have w2 : Vw rows'[i] ≤ Vs rows' := sum_at Vw hi
        have w3 := Wd_sum rows'[i]
        simp only [↓DL.wSeq, ↓DL.wSlT, ↓DL.wNo, ↓DL.wPart, ↓DL.dSlT, ↓DL.dCat, ↓DL.dListT, ↓DL.wFor, ↓DL.iR1, ↓DL.iR2, ↓DL.iTp, ↓DL.iLs, ↓DL.iNw, ↓DL.iLn, ↓DL.wNext, ↓DL.wIf, ↓DL.wRet, ↓DL.wRetN, ↓DL.wDrop, ↓DL.wAsg, ↓DL.gNm, ↓DL.wPar, ↓DL.wVar, ↓DL.wC, ↓DL.wOp, ↓DL.wUn, ↓DL.wTst, ↓DL.wChain, ↓DL.wAnd, ↓DL.wOr, ↓DL.wNot, ↓DL.wAndV, ↓DL.wOrV, ↓DL.wNotV, ↓DL.wIfE, ↓DL.wNil, ↓DL.wCons, ↓DL.wTup, ↓DL.wLst, ↓DL.wNew, ↓DL.wDer, ↓DL.wVL, ↓DL.wVLL, ↓DL.wALL, ↓DL.wCall, ↓DL.wIsa, ↓DL.wRaise, ↓DL.isB, ↓DL.dI0, ↓DL.dI, ↓DL.dU, ↓DL.dLen, ↓DL.dIx, ↓DL.gSubD, ↓DL.setD, ↓DL.wBM, ↓DL.isL, ↓DL.onL, ↓DL.dPopAt, ↓DL.dAppend, ↓DL.wIxV, ↓DL.wEqVL, ↓DL.wEqL, ↓DL.dEqS, ↓DL.dNeS, ↓DL.startD, List.map_cons, List.map_nil, List.length_cons, List.length_nil, List.cons_append, List.nil_append, List.replicate_succ, List.replicate_zero, List.getElem?_cons_zero, List.getElem?_cons_succ, List.set_cons_zero, List.set_cons_succ, Nat.reduceAdd, Nat.reduceSub, Nat.sub_self, ↓DL.kindD, ↓DL.dIsN, ↓DL.dNotN, ↓DL.isaB, String.reduceBEq, Bool.or_false, Bool.false_or, Bool.true_or, Bool.or_true, Bool.and_true, Bool.and_false, Bool.true_and, Bool.false_and, decide_true, decide_false, ↓DL.isNon, if_true, if_false, Bool.not_true, Bool.not_false, Bool.false_eq_true, reduceIte, true_and, and_true, ↓DL.dAddX, ↓DL.dMulX, ↓DL.dIxX, ↓DL.wSlX, ↓DL.dSlX, ↓DL.wSlL2, ↓DL.withL_rl, ↓DL.lsOf, ↓DL.wDerL, ↓DL.wFz, ↓DL.wFzR, ↓DL.frzD, ↓DL.wSide, ↓DL.wCatX, ↓DL.dEqA, ↓DL.scalEq, ↓DL.eqB, ↓DL.iLq, ↓DL.iSg, ↓DL.iEn, ↓DL.wM1, ↓DL.isStr, ↓DL.dJoin, ↓DL.dStrip, ↓DL.wSplit, ↓DL.dIntX, ↓DL.dInF, ↓DL.dInS, ↓DL.seqOf, ↓DL.wPar3, ↓DL.wFld, ↓DL.fldD, ↓DL.wSetF, ↓DL.setFD, ↓DL.wAugF, ↓DL.wMeth, ↓DL.recvD, ↓DL.wMake, ↓DL.fillP, ↓DL.wAsg2, ↓DL.gFldD, ↓DL.gStD, ↓DL.starV, ↓DL.gCs, ↓DL.gNl, ↓DL.gTp, Nat.add_zero, List.append_nil, List.zipWith_nil_left, List.zipWith_cons_cons, List.getD_cons_zero, ↓DL.wYes, reduceCtorEq, ↓DL.dEqX, ↓DL.dInD, DL.dataS_rl, DL.dataS_tup, DL.dataS_int, DL.dataS_str, DL.dataS_non, DL.dataD_nil, DL.dataD_ti, DL.dataD_li, ↓DL.isL2, ↓DL.dCountX, ↓DL.dIndexX, Option.isSome_some, ↓DL.dStrX, wipeD, DL.strs_map]
        rw [show (" " : Str).length = 1 from rfl]
        exact ⟨by omega, k⟩
      have em : (rowsD rows').map (fun d => match d with | .rl xs => (match DL.strs? xs with | some ys => D.str (Txt.join " " ys) | none => .non) | _ => .non) = (rows'.map (Txt.join " ")).map D.str := by
        unfold rowsD
        rw [List.map_map, List.map_map]
        refine List.map_congr_left fun r _ => ?_
        simp only [Function.comp, DL.strs_map]
      rw [List.nil_append, em, DL.strs_map]
      have w := Wd_sum (rows'.map (Txt.join " "))
      rw [Vs_text] at w
      have tl := text_len rows'
      rw [show ("\n" : Str).length = 1 from rfl]
      exact ⟨by omega, _, le', h2 _ (by unfold textOf at tl; omega)⟩
    · intro NX hn
      have ev : Vs (rows.take num.toNat) + (Vw row + Vs (rows.drop (num.toNat + 1))) = Vs rows := by
        have c := sum_cut Vw rows num.toNat
        rw [List.drop_eq_getElem_cons (by omega), hrow, List.map_cons, List.sum_cons] at c
        exact c
      have put : ∀ (o2 o4 o5 o6 o7 o8 o9 : Option D) (row' : List Str), Vw row' ≤ 2 * Vw row + 8 → NX [some (.ref b), some (.str x), o2, some (.ref q), o4, o5, o6, o7, o8, o9] (sup S1 q (.lst ((rowsD rows).set num.toNat (.rl (row'.map D.str))))) := fun o2 o4 o5 o6 o7 o8 o9 row' hv => by
        refine hn _ _ ⟨o2, o4, o5, o6, o7, o8, o9, q, rows.set num.toNat row', rfl, le_upd le1 nq, ?_, ?_⟩
        · rw [sup_same]
          exact congrArg (fun z => some (MO.lst z)) (setM (f := fun r : List Str => D.rl (r.map D.str)))
        · have c := sum_set Vw hn0 row'
          rw [hrow] at c
          have c2 : Vs (rows.set num.toNat row') + Vw row = Vs rows + Vw row' := c
          omega
      have new : ∀ (o2 o4 o5 o6 o7 o8 o9 : Option D) (rows' : List (List Str)), Vs rows' ≤ 2 * x.length + 10 → ∀ l, S1 l = none → NX [some (.ref b), some (.str x), o2, some (.ref l), o4, o5, o6, o7, o8, o9] (sup S1 l (.lst (rowsD rows'))) := fun o2 o4 o5 o6 o7 o8 o9 rows' hv l hl =>
        hn _ _ ⟨o2, o4, o5, o6, o7, o8, o9, l, rows', rfl, le1.sup hl, sup_same, hv⟩
      have jx : ixN (rowsD rows).length num = some num.toNat := ixN_lt n0 (by rw [rowsD_len]; exact n1)
      have t1 := cutS_to (r := row) p0 (by omega)
      have wt := Wd_take row pl.toNat
      have wr2 := Wd_le row
      simp only [↓DL.wSeq, ↓DL.wSlT, ↓DL.wNo, ↓DL.wPart, ↓DL.dSlT, ↓DL.dCat, ↓DL.dListT, ↓DL.wFor, ↓DL.iR1, ↓DL.iR2, ↓DL.iTp, ↓DL.iLs, ↓DL.iNw, ↓DL.iLn, ↓DL.wNext, ↓DL.wIf, ↓DL.wRet, ↓DL.wRetN, ↓DL.wDrop, ↓DL.wAsg, ↓DL.gNm, ↓DL.wPar, ↓DL.wVar, ↓DL.wC, ↓DL.wOp, ↓DL.wUn, ↓DL.wTst, ↓DL.wChain, ↓DL.wAnd, ↓DL.wOr, ↓DL.wNot, ↓DL.wAndV, ↓DL.wOrV, ↓DL.wNotV, ↓DL.wIfE, ↓DL.wNil, ↓DL.wCons, ↓DL.wTup, ↓DL.wLst, ↓DL.wNew, ↓DL.wDer, ↓DL.wVL, ↓DL.wVLL, ↓DL.wALL, ↓DL.wCall, ↓DL.wIsa, ↓DL.wRaise, ↓DL.isB, ↓DL.dI0, ↓DL.dI, ↓DL.dU, ↓DL.dLen, ↓DL.dIx, ↓DL.gSubD, ↓DL.setD, ↓DL.wBM, ↓DL.isL, ↓DL.onL, ↓DL.dPopAt, ↓DL.dAppend, ↓DL.wIxV, ↓DL.wEqVL, ↓DL.wEqL, ↓DL.dEqS, ↓DL.dNeS, ↓DL.startD, List.map_cons, List.map_nil, List.length_cons, List.length_nil, List.cons_append, List.nil_append, List.replicate_succ, List.replicate_zero, List.getElem?_cons_zero, List.getElem?_cons_succ, List.set_cons_zero, List.set_cons_succ, Nat.reduceAdd, Nat.reduceSub, Nat.sub_self, ↓DL.kindD, ↓DL.dIsN, ↓DL.dNotN, ↓DL.isaB, String.reduceBEq, Bool.or_false, Bool.false_or, Bool.true_or, Bool.or_true, Bool.and_true, Bool.and_false, Bool.true_and, Bool.false_and, decide_true, decide_false, ↓DL.isNon, if_true, if_false, Bool.not_true, Bool.not_false, Bool.false_eq_true, reduceIte, true_and, and_true, ↓DL.dAddX, ↓DL.dMulX, ↓DL.dIxX, ↓DL.wSlX, ↓DL.dSlX, ↓DL.wSlL2, ↓DL.withL_rl, ↓DL.lsOf, ↓DL.wDerL, ↓DL.wFz, ↓DL.wFzR, ↓DL.frzD, ↓DL.wSide, ↓DL.wCatX, ↓DL.dEqA, ↓DL.scalEq, ↓DL.eqB, ↓DL.iLq, ↓DL.iSg, ↓DL.iEn, ↓DL.wM1, ↓DL.isStr, ↓DL.dJoin, ↓DL.dStrip, ↓DL.wSplit, ↓DL.dIntX, ↓DL.dInF, ↓DL.dInS, ↓DL.seqOf, ↓DL.wPar3, ↓DL.wFld, ↓DL.fldD, ↓DL.wSetF, ↓DL.setFD, ↓DL.wAugF, ↓DL.wMeth, ↓DL.recvD, ↓DL.wMake, ↓DL.fillP, ↓DL.wAsg2, ↓DL.gFldD, ↓DL.gStD, ↓DL.starV, ↓DL.gCs, ↓DL.gNl, ↓DL.gTp, Nat.add_zero, List.append_nil, List.zipWith_nil_left, List.zipWith_cons_cons, List.getD_cons_zero, ↓DL.wYes, reduceCtorEq, ↓DL.dEqX, ↓DL.dInD, DL.dataS_rl, DL.dataS_tup, DL.dataS_int, DL.dataS_str, DL.dataS_non, DL.dataD_nil, DL.dataD_ti, DL.dataD_li, ↓DL.isL2, ↓DL.dCountX, ↓DL.dIndexX, Option.isSome_some, ↓DL.dStrX]
      by_cases c1 : deed < 3
      · rw [if_pos (by simpa using c1)]
        have hd2 : deed / 2 = 0 ∨ deed / 2 = 1 := by omega
        have t2 := cutS_from (r := row) (k := pl + deed / 2) (by omega)
        have wd2 := Wd_drop row (pl + deed / 2).toNat
        rw [t1, t2]
        refine ⟨by decide, by simp; rw [sizeLine_eq]; omega, cdiv2, by simp; rw [sizeLine_eq]; omega, ?_⟩
        rw [eq1]
        dsimp only
        rw [jx]
        dsimp only
        have e : (row.take pl.toNat).map D.str ++ [D.str wd] ++ (row.drop (pl + deed / 2).toNat).map D.str = (row.take pl.toNat ++ [wd] ++ row.drop (pl + deed / 2).toNat).map D.str := by simp
        rw [e]
        refine put _ _ _ _ _ _ _ _ ?_
        have := Vw_le (row.take pl.toNat ++ [wd] ++ row.drop (pl + deed / 2).toNat)
        rw [Wd_app, Wd_app] at this
        have : Wd [wd] = wd.length + 1 := by simp [Wd]
        omega
      rw [if_neg (by simpa using c1)]
      by_cases c2 : deed = 3
      · rw [if_pos (by simpa using c2)]
        have t2 := cutS_from (r := row) (k := pl + 1) (by omega)
        have wd2 := Wd_drop row (pl + 1).toNat
        rw [t1, t2]
        refine ⟨by simp; rw [sizeLine_eq]; omega, ?_⟩
        rw [eq1]
        dsimp only
        rw [jx]
        dsimp only
        rw [← List.map_append]
        refine put _ _ _ _ _ _ _ _ ?_
        have := Vw_le (row.take pl.toNat ++ row.drop (pl + 1).toNat)
        rw [Wd_app] at this
        omega
      rw [if_neg (by simpa using c2)]
      by_cases c3 : deed = 4
      · rw [if_pos (by simpa using c3)]
        have t2 := cutS_from (r := row) (k := if pl - 1 > 0 then pl - 1 else 0) (by split <;> omega)
        have wd2 := Wd_drop row (if pl - 1 > 0 then pl - 1 else 0).toNat
        simp only [↓DL.wSeq, ↓DL.wSlT, ↓DL.wNo, ↓DL.wPart, ↓DL.dSlT, ↓DL.dCat, ↓DL.dListT, ↓DL.wFor, ↓DL.iR1, ↓DL.iR2, ↓DL.iTp, ↓DL.iLs, ↓DL.iNw, ↓DL.iLn, ↓DL.wNext, ↓DL.wIf, ↓DL.wRet, ↓DL.wRetN, ↓DL.wDrop, ↓DL.wAsg, ↓DL.gNm, ↓DL.wPar, ↓DL.wVar, ↓DL.wC, ↓DL.wOp, ↓DL.wUn, ↓DL.wTst, ↓DL.wChain, ↓DL.wAnd, ↓DL.wOr, ↓DL.wNot, ↓DL.wAndV, ↓DL.wOrV, ↓DL.wNotV, ↓DL.wIfE, ↓DL.wNil, ↓DL.wCons, ↓DL.wTup, ↓DL.wLst, ↓DL.wNew, ↓DL.wDer, ↓DL.wVL, ↓DL.wVLL, ↓DL.wALL, ↓DL.wCall, ↓DL.wIsa, ↓DL.wRaise, ↓DL.isB, ↓DL.dI0, ↓DL.dI, ↓DL.dU, ↓DL.dLen, ↓DL.dIx, ↓DL.gSubD, ↓DL.setD, ↓DL.wBM, ↓DL.isL, ↓DL.onL, ↓DL.dPopAt, ↓DL.dAppend, ↓DL.wIxV, ↓DL.wEqVL, ↓DL.wEqL, ↓DL.dEqS, ↓DL.dNeS, ↓DL.startD, List.map_cons, List.map_nil, List.length_cons, List.length_nil, List.cons_append, List.nil_append, List.replicate_succ, List.replicate_zero, List.getElem?_cons_zero, List.getElem?_cons_succ, List.set_cons_zero, List.set_cons_succ, Nat.reduceAdd, Nat.reduceSub, Nat.sub_self, ↓DL.kindD, ↓DL.dIsN, ↓DL.dNotN, ↓DL.isaB, String.reduceBEq, Bool.or_false, Bool.false_or, Bool.true_or, Bool.or_true, Bool.and_true, Bool.and_false, Bool.true_and, Bool.false_and, decide_true, decide_false, ↓DL.isNon, if_true, if_false, Bool.not_true, Bool.not_false, Bool.false_eq_true, reduceIte, true_and, and_true, ↓DL.dAddX, ↓DL.dMulX, ↓DL.dIxX, ↓DL.wSlX, ↓DL.dSlX, ↓DL.wSlL2, ↓DL.withL_rl, ↓DL.lsOf, ↓DL.wDerL, ↓DL.wFz, ↓DL.wFzR, ↓DL.frzD, ↓DL.wSide, ↓DL.wCatX, ↓DL.dEqA, ↓DL.scalEq, ↓DL.eqB, ↓DL.iLq, ↓DL.iSg, ↓DL.iEn, ↓DL.wM1, ↓DL.isStr, ↓DL.dJoin, ↓DL.dStrip, ↓DL.wSplit, ↓DL.dIntX, ↓DL.dInF, ↓DL.dInS, ↓DL.seqOf, ↓DL.wPar3, ↓DL.wFld, ↓DL.fldD, ↓DL.wSetF, ↓DL.setFD, ↓DL.wAugF, ↓DL.wMeth, ↓DL.recvD, ↓DL.wMake, ↓DL.fillP, ↓DL.wAsg2, ↓DL.gFldD, ↓DL.gStD, ↓DL.starV, ↓DL.gCs, ↓DL.gNl, ↓DL.gTp, Nat.add_zero, List.append_nil, List.zipWith_nil_left, List.zipWith_cons_cons, List.getD_cons_zero, ↓DL.wYes, reduceCtorEq, ↓DL.dEqX, ↓DL.dInD, DL.dataS_rl, DL.dataS_tup, DL.dataS_int, DL.dataS_str, DL.dataS_non, DL.dataD_nil, DL.dataD_ti, DL.dataD_li, ↓DL.isL2, ↓DL.dCountX, ↓DL.dIndexX, Option.isSome_some, ↓DL.dStrX, dMax2]
        rw [t1, t2]
        refine ⟨by simp; rw [sizeLine_eq]; omega, ?_⟩
        rw [eq1]
        dsimp only
        rw [jx]
        dsimp only
        rw [← List.map_append]
        refine put _ _ _ _ _ _ _ _ ?_
        have := Vw_le (row.take pl.toNat ++ row.drop (if pl - 1 > 0 then pl - 1 else 0).toNat)
        rw [Wd_app] at this
        omega
      rw [if_neg (by simpa using c3)]
      have u1 := cutR_to (r := rows) n0 (by omega)
      have u2 := cutR_from (r := rows) (k := num + 1) (by omega)
      have en : (num + 1).toNat = num.toNat + 1 := by omega
      have lt := Wd_le row
      by_cases c4 : deed = 5
      · rw [if_pos (by simpa using c4)]
        have t2 := cutS_from (r := row) (k := pl) p0
        have wc := Wd_cut row pl.toNat
        refine withL_of (lsOf_ref eq1) ?_
        rw [u1, t1, t2, show [D.rl ((row.take pl.toNat).map D.str), D.rl ((row.drop pl.toNat).map D.str)] = rowsD [row.take pl.toNat, row.drop pl.toNat] from rfl, rowsD_app]
        refine ⟨by decide, by rw [rowsD_len, sizeLine_eq, List.length_take]; omega, withL_of (lsOf_ref eq1) ?_⟩
        rw [u2, rowsD_app]
        refine ⟨by simp [rowsD_len]; rw [sizeLine_eq]; omega, new _ _ _ _ _ _ _ _ ?_⟩
        rw [Vs_app, Vs_app, en]
        have a1 := Vw_le (row.take pl.toNat)
        have a2 := Vw_le (row.drop pl.toNat)
        have a3 : Vs [row.take pl.toNat, row.drop pl.toNat] = Vw (row.take pl.toNat) + Vw (row.drop pl.toNat) := by simp [Vs]
        omega
      · rw [if_neg (by simpa using c4), eq1]
        dsimp only
        by_cases c5 : 1 < rows.length
        · rw [if_pos (by rw [rowsD_len]; simp; omega)]
          refine withL_of (lsOf_ref eq1) (withL_of (lsOf_ref eq1) ?_)
          rw [u1, u2, rowsD_app]
          refine ⟨by simp [rowsD_len]; rw [sizeLine_eq]; omega, new _ _ _ _ _ _ _ _ ?_⟩
          rw [Vs_app, en]
          omega
        · rw [if_neg (by rw [rowsD_len]; simp; omega)]
          refine ⟨by decide, withL_of (lsOf_ref eq1) ?_⟩
          rw [show [D.rl (row.map D.str)] = rowsD [row] from rfl, rowsD_app]
          refine ⟨by rw [rowsD_len, sizeLine_eq]; omega, new _ _ _ _ _ _ _ _ ?_⟩
          rw [Vs_app, show Vs [row] = Vw row by simp [Vs]]
          omega
--CUT

theorem nS_len {i : Int} (h : i.natAbs < 1000) : (nS i).length ≤ 4 := by
  unfold nS
  rw [show ((toString i : String) : Str) = PySem.Str.ofString (toString i) from rfl, PySem.ofString_length]
  exact PySem.int_text_length_le10 (k := 3) (by decide) (by omega)
theorem words_len : ∀ (as : List Int), (∀ a ∈ as, a.natAbs < 1000) → Wd (as.map nS) ≤ 5 * as.length
  | [], _ => by simp [Wd]
  | a :: as, h => by
    have h1 := words_len as fun b hb => h b (by simp [hb])
    have h2 := nS_len (h a (by simp))
    unfold Wd at *
    simp only [List.map_cons, List.sum_cons, List.length_cons]
    omega
theorem line_len (as : List Int) (h : ∀ a ∈ as, a.natAbs < 1000) : (Txt.join " " (as.map nS)).length ≤ 5 * as.length := by
  have h1 := join_one (y := " ") rfl (as.map nS)
  have h2 := Vw_le (as.map nS)
  have h3 := words_len as h
  omega
theorem map_rel {α : Type} {f : α → D} {P : α → Prop} {ds ys : List D} (hl : ys.length = ds.length) (h : ∀ (i : Nat) (d y : D), ds[i]? = some d → ys[i]? = some y → ∃ a, y = f a ∧ P a) : ∃ as : List α, ys = as.map f ∧ ∀ a ∈ as, P a := by
  have mem : ∀ y ∈ ys, ∃ a, y = f a ∧ P a := fun y hy => by
    obtain ⟨i, hi, e⟩ := List.getElem_of_mem hy
    exact h i ds[i] y (List.getElem?_eq_getElem (by omega)) (by rw [List.getElem?_eq_getElem hi, e])
  clear h hl
  induction ys with
  | nil => exact ⟨[], rfl, fun a ha => by cases ha⟩
  | cons y ys ih =>
    obtain ⟨as, e, ha⟩ := ih fun z hz => mem z (by simp [hz])
    obtain ⟨a, rfl, pa⟩ := mem y (by simp)
    refine ⟨a :: as, by rw [e]; rfl, fun b hb => ?_⟩
    rcases List.mem_cons.mp hb with rfl | hb
    · exact pa
    · exact ha b hb
theorem noSs_strs : ∀ rs : List Str, noSs (rs.map D.str) = true
  | [] => rfl
  | r :: rs => noSs_strs rs
theorem noSs_ints : ∀ as : List Int, noSs (as.map D.int) = true
  | [] => rfl
  | a :: as => noSs_ints as
theorem noS_strs (rs : List Str) : noSo (.lst (rs.map D.str)) = true := noSs_strs rs
theorem gds_ints : ∀ as : List Int, gds (as.map D.int) = true
  | [] => rfl
  | a :: as => by rw [List.map_cons, gds, gds_ints as]; rfl
theorem deps_ints : ∀ as : List Int, deps (as.map D.int) ≤ 1
  | [] => by simp [deps]
  | a :: as => by have := deps_ints as; rw [List.map_cons]; simp only [deps, dep]; omega
theorem rdRow_ok {l : Str} {p : PutR} (h : rdRow l = some p) : p.past.length ≤ 10 := by
  unfold rdRow at h
  split at h
  · rename_i w ws e
    split at h
    · rename_i c
      cases en : nums ws with
      | none => rw [en] at h; cases h
      | some ns =>
        rw [en] at h
        have ln := (nums_map en).2
        have := putR_past (ns := ns) (by omega)
        cases h
        omega
    · cases h
  · cases h
theorem rdLog_ok : ∀ {rows : List Str} {i : Nat} {ps : List PutR}, rdLog rows i = .inl ps → ps.length = rows.length ∧ ∀ p ∈ ps, p.past.length ≤ 10
  | [], i, ps, h => by cases h; exact ⟨rfl, fun p hp => by cases hp⟩
  | l :: ls, i, ps, h => by
    unfold rdLog at h
    split at h
    · cases h
    · rename_i p e
      split at h
      · rename_i qs e2
        cases h
        obtain ⟨h1, h2⟩ := rdLog_ok e2
        refine ⟨by simp [h1], fun q hq => ?_⟩
        rcases List.mem_cons.mp hq with rfl | hq
        · exact rdRow_ok e
        · exact h2 q hq
      · cases h
theorem noSs_puts : ∀ ps : List PutR, noSs (ps.map PutR.d) = true
  | [] => rfl
  | p :: ps => by
    have h1 := noSs_puts ps
    have h2 := noSs_ints p.past
    simp only [List.map_cons, noSs, PutR.d, noS, h1, h2, Bool.and_self]
theorem gds_puts : ∀ {ps : List PutR}, (∀ p ∈ ps, p.past.length ≤ 10) → gds (ps.map PutR.d) = true
  | [], _ => rfl
  | p :: ps, h => by
    have h1 := gds_puts (ps := ps) fun q hq => h q (by simp [hq])
    have h2 := gds_ints p.past
    have h3 := h p (by simp)
    have h4 : decide (p.past.length ≤ 1000000) = true := decide_eq_true (by omega)
    simp only [List.map_cons, gds, h1, PutR.d, gd, h2, List.length_map, h4, List.length_cons, List.length_nil, Bool.and_self, Bool.and_true]
    rfl
theorem deps_puts : ∀ ps : List PutR, deps (ps.map PutR.d) ≤ 4
  | [] => by simp [deps]
  | p :: ps => by
    have h1 := deps_puts ps
    have h2 := deps_ints p.past
    simp only [List.map_cons, deps, PutR.d, dep]
    omega
theorem rdTok_gd (x : Str) (h : x.length ≤ 100000) : gd (tokD (rdTok x)) = true ∧ dep (tokD (rdTok x)) ≤ 8 := by
  cases e : rdTok x with
  | inl ns =>
    have ln : ns.length ≤ 100001 := by
      unfold rdTok at e
      split at e
      · cases e
      · rename_i ms em
        split at e
        · cases e
          have := (nums_map em).2
          have := split_len x sepB
          omega
        · cases e
    unfold tokD
    refine ⟨?_, ?_⟩
    · rw [gd, gds_ints, Bool.and_true, decide_eq_true_eq, List.length_map]
      omega
    · have := deps_ints ns
      rw [dep]
      omega
  | inr k => cases k <;> exact ⟨by decide, by decide⟩
def sp_law (PT : Addr) : SpD := fun ds S Q _ => match ds with
  | [d] => ∃ ns, isInts d S ns ∧ ns.length ≤ 63 ∧ S PT = some (.tab "law.<locals>.<lambda>") ∧ NoSS S ∧ ∀ S', Q (.bl true) S'
  | _ => False
--HINT law | _law_log(_law_log_here) | frz
theorem sc_law : FnScope ["_law_script", "_law_box", "_law_turn", "_law_text", "_law_k", "_law_rows", "_law_j", "_law_log_here", "_law_change", "_law_again"] ["_law_script"] (defScope s_law) := ⟨rfl, rfl, rfl, by decide +kernel, rfl, by decide +kernel, by decide +kernel⟩
theorem ok_law {f c PT : Addr} {dV kV doc pm cdv ct oc : Value} {an od : Option Addr} {osl : Array (Option Value)} (hc : cdv = .ref c) (TB : LamX.TabB base mg c PT)
    (lk : K.lookup f = some ⟨oc, od, .func (PySem.W.fnOf "law" "law" (defArgs s_law) (defBody s_law) (defScope s_law) dV kV doc pm an cdv ct), osl⟩) (hcd : PySem.W.codeIn K cdv "law" = true) (T : Txt K mg)
     (c__law_alike : Cal P w K mg base "_law_alike" 8 ["_law_found", "_law_due"] (sp_alike 8)) (c__law_log : Cal P w K mg base "_law_log" 2 ["_law_text"] sp_llog) (c__law_told : Cal P w K mg base "_law_told" 10 ["_law_work"] (sp_told P w K mg base 8 ["BadText", "BadToken"])) (c__law_token : Cal P w K mg base "_law_token" 2 ["_law_text"] sp_ltoken) (c__law_take : Cal P w K mg base "_law_take" 1 ["_law_box", "_law_many"] sp_take) (c__law_spoilt : Cal P w K mg base "_law_spoilt" 2 ["_law_box", "_law_text"] sp_lspoilt) (c__law_begun : Cal P w K mg base "_law_begun" 1 ["_law_script"] sp_begun) (c_read : Cal P w K mg base "read" 4 ["text"] sp_read) (c_read_log : Cal P w K mg base "read_log" 4 ["text"] sp_read_log) :
    FnOk P w K mg base (L2.CX P w) 17 f (PySem.W.fnOf "law" "law" (defArgs s_law) (defBody s_law) (defScope s_law) dV kV doc pm an cdv ct) ["_law_script"] (upSp K mg (sp_law PT)) := by
  refine law_ok lk hcd sc_law (fun ds S Q E h => ?_) fun A outer s H E hr => ?_
  · unfold sp_law at h; split at h <;> first | rfl | exact h.elim
  have hcode : (cxOf (L2.CX P w) P w K mg base ["_law_script", "_law_box", "_law_turn", "_law_text", "_law_k", "_law_rows", "_law_j", "_law_log_here", "_law_change", "_law_again"] "law" (defScope s_law) f cdv A outer s H E).env.code = .ref c := hc
  refine ⟨_, (dpss_cons (dps_set (i := 1) sc_law.nd rfl (by first | exact Or.inl rfl | exact Or.inr rfl) (dpe_cal c__law_begun hr (by first | decide | omega) rfl (takes_of rfl rfl rfl rfl) (dpa_cons (dv 0) dpa_nil)))
    (dpss_cons (dps_for (passes_of rfl) rfl (dpi_r1 rfl T.b_range (dpa_cons dpe_int dpa_nil)) (dpg_name (vs := [2]) (i := 2) sc_law.nd rfl (by first | exact Or.inl rfl | exact Or.inr rfl) (by decide)) (dpss_cons (dps_set (i := 3) sc_law.nd rfl (by first | exact Or.inl rfl | exact Or.inr rfl) (dpe_sm PySem.F.slot_str_join PySem.F.type_str_join mt_join lm_join dpe_str (dpe_fz (dpl_lc (own := [("_law_k", 4)]) rfl sc_law.nd (dpi_r1 rfl T.b_range (dpa_cons (dpe_op op_addX lr_addX dpe_int (dpe_cal c__law_take hr (by first | decide | omega) rfl (takes_of rfl rfl rfl rfl) (dpa_cons (dv 1) (dpa_cons dpe_int dpa_nil)))) dpa_nil)) (blkOk_by (own := [("_law_k", 4)]) (by rfl)) (fun _ _ _ _ _ => (dpg_name (vs := [4]) (i := 4) sc_law.nd rfl (by first | exact Or.inl rfl | exact Or.inr rfl) (by decide))) (fun _ _ _ _ _ => dpts_nil) (fun _ _ _ _ _ => (dpe_ta (DL.CallR.or call_str_int SkE.call_str_str) lc_strX rfl T.b_str bb_str (dpa_cons (dpe_cal c__law_take hr (by first | decide | omega) rfl takes0 (dpa_cons (dv 1) (dpa_cons dpe_int dpa_nil))) dpa_nil)))))))
    (dpss_cons (dps_set (i := 5) sc_law.nd rfl (by first | exact Or.inl rfl | exact Or.inr rfl) (dpe_new (dpl_lst dpa_nil)))
    (dpss_cons (dps_for (passes_of rfl) rfl (dpi_r1 rfl T.b_range (dpa_cons (dpe_op op_addX lr_addX dpe_int (dpe_cal c__law_take hr (by first | decide | omega) rfl (takes_of rfl rfl rfl rfl) (dpa_cons (dv 1) (dpa_cons dpe_int dpa_nil)))) dpa_nil)) (dpg_name (vs := [4]) (i := 4) sc_law.nd rfl (by first | exact Or.inl rfl | exact Or.inr rfl) (by decide)) (dpss_one (dps_expr (dpe_bm PySem.F.plainAttrs_list PySem.F.slot_list_append PySem.F.type_list_append mt_append lm_append ty_list (dv 5) (dpa_cons (dpe_op op_addX lr_addX dpe_str (dpe_sm PySem.F.slot_str_join PySem.F.type_str_join mt_join lm_join dpe_str (dpe_fz (dpl_lc (own := [("_law_j", 6)]) rfl sc_law.nd (dpi_r1 rfl T.b_range (dpa_cons (dpe_op op_addX lr_addX dpe_int (dpe_cal c__law_take hr (by first | decide | omega) rfl (takes_of rfl rfl rfl rfl) (dpa_cons (dv 1) (dpa_cons dpe_int dpa_nil)))) dpa_nil)) (blkOk_by (own := [("_law_j", 6)]) (by rfl)) (fun _ _ _ _ _ => (dpg_name (vs := [6]) (i := 6) sc_law.nd rfl (by first | exact Or.inl rfl | exact Or.inr rfl) (by decide))) (fun _ _ _ _ _ => dpts_nil) (fun _ _ _ _ _ => (dpe_ta (DL.CallR.or call_str_int SkE.call_str_str) lc_strX rfl T.b_str bb_str (dpa_cons (dpe_op op_sub lr_int (dpe_cal c__law_take hr (by first | decide | omega) rfl takes0 (dpa_cons (dv 1) (dpa_cons dpe_int dpa_nil))) dpe_int) dpa_nil))))))) dpa_nil)))))
    (dpss_cons (dps_set (i := 7) sc_law.nd rfl (by first | exact Or.inl rfl | exact Or.inr rfl) (dpe_sm PySem.F.slot_str_join PySem.F.type_str_join mt_join lm_join dpe_str (dv 5)))
    (dpss_cons (dps_for (passes_of rfl) rfl (dpi_r1 rfl T.b_range (dpa_cons (dpe_cal c__law_take hr (by first | decide | omega) rfl (takes_of rfl rfl rfl rfl) (dpa_cons (dv 1) (dpa_cons dpe_int dpa_nil))) dpa_nil)) (dpg_name (vs := [8]) (i := 8) sc_law.nd rfl (by first | exact Or.inl rfl | exact Or.inr rfl) (by decide)) (dpss_one (dps_asg (dpe_tup (dpa_cons (dpe_cal c__law_spoilt hr (by first | decide | omega) rfl (takes_of rfl rfl rfl rfl) (dpa_cons (dv 1) (dpa_cons (dv 3) dpa_nil))) (dpa_cons (dpe_cal c__law_spoilt hr (by first | decide | omega) rfl (takes_of rfl rfl rfl rfl) (dpa_cons (dv 1) (dpa_cons (dv 7) dpa_nil))) dpa_nil))) (dpg_tup (n := 2) rfl (dpgs_cons (dpg_name (vs := [3, 7]) (i := 3) sc_law.nd rfl (by first | exact Or.inl rfl | exact Or.inr rfl) (by decide)) (dpgs_cons (dpg_name (vs := [3, 7]) (i := 7) sc_law.nd rfl (by first | exact Or.inl rfl | exact Or.inr rfl) (by decide)) dpgs_nil))))))
    (dpss_one (dps_for (passes_of rfl) rfl (dpi_r1 rfl T.b_range (dpa_cons dpe_int dpa_nil)) (dpg_name (vs := [9]) (i := 9) sc_law.nd rfl (by first | exact Or.inl rfl | exact Or.inr rfl) (by decide)) (dpss_cons (dps_if (dpt_not (dpt_val (dpe_cal c__law_alike hr (by first | decide | omega) rfl (takes_of rfl rfl rfl rfl) (dpa_cons (dpe_calS (names := [("_law_text", 3)]) c__law_told hr (by first | decide | omega) rfl (takes_of rfl rfl rfl rfl) (dpa_cons (dpe_lamS TB hcode rfl rfl rfl (.inl rfl)) dpa_nil) (fun _ => rfl) (nmB_ok rfl)) (dpa_cons (dpe_cal c__law_token hr (by first | decide | omega) rfl (takes_of rfl rfl rfl rfl) (dpa_cons (dv 3) dpa_nil)) dpa_nil))))) (dpss_one (dps_ret dpe_bl)) dpss_nil)
    (dpss_one (dps_if (dpt_not (dpt_val (dpe_cal c__law_alike hr (by first | decide | omega) rfl (takes_of rfl rfl rfl rfl) (dpa_cons (dpe_calS (names := [("_law_log_here", 7)]) c__law_told hr (by first | decide | omega) rfl (takes_of rfl rfl rfl rfl) (dpa_cons (dpe_lamS TB hcode rfl rfl rfl (.inl rfl)) dpa_nil) (fun _ => rfl) (nmB_ok rfl)) (dpa_cons (dpe_fzR (dpe_cal c__law_log hr (by first | decide | omega) rfl (takes_of rfl rfl rfl rfl) (dpa_cons (dv 7) dpa_nil))) dpa_nil))))) (dpss_one (dps_ret dpe_bl)) dpss_nil)))))))))))
    (dpss_one (dps_ret dpe_bl)))), ?_⟩
  · intro ds S Q ED h
    unfold sp_law at h
    split at h
    · rename_i d
      obtain ⟨ns, hi, hn, ePT, n0S, h⟩ := h
      simp only [↓DL.wSeq, ↓DL.wSlT, ↓DL.wNo, ↓DL.wPart, ↓DL.dSlT, ↓DL.dCat, ↓DL.dListT, ↓DL.wFor, ↓DL.iR1, ↓DL.iR2, ↓DL.iTp, ↓DL.iLs, ↓DL.iNw, ↓DL.iLn, ↓DL.wNext, ↓DL.wIf, ↓DL.wRet, ↓DL.wRetN, ↓DL.wDrop, ↓DL.wAsg, ↓DL.gNm, ↓DL.wPar, ↓DL.wVar, ↓DL.wC, ↓DL.wOp, ↓DL.wUn, ↓DL.wTst, ↓DL.wChain, ↓DL.wAnd, ↓DL.wOr, ↓DL.wNot, ↓DL.wAndV, ↓DL.wOrV, ↓DL.wNotV, ↓DL.wIfE, ↓DL.wNil, ↓DL.wCons, ↓DL.wTup, ↓DL.wLst, ↓DL.wNew, ↓DL.wDer, ↓DL.wVL, ↓DL.wVLL, ↓DL.wALL, ↓DL.wCall, ↓DL.wIsa, ↓DL.wRaise, ↓DL.isB, ↓DL.dI0, ↓DL.dI, ↓DL.dU, ↓DL.dLen, ↓DL.dIx, ↓DL.gSubD, ↓DL.setD, ↓DL.wBM, ↓DL.isL, ↓DL.onL, ↓DL.dPopAt, ↓DL.dAppend, ↓DL.wIxV, ↓DL.wEqVL, ↓DL.wEqL, ↓DL.dEqS, ↓DL.dNeS, ↓DL.startD, List.map_cons, List.map_nil, List.length_cons, List.length_nil, List.cons_append, List.nil_append, List.replicate_succ, List.replicate_zero, List.getElem?_cons_zero, List.getElem?_cons_succ, List.set_cons_zero, List.set_cons_succ, Nat.reduceAdd, Nat.reduceSub, Nat.sub_self, ↓DL.kindD, ↓DL.dIsN, ↓DL.dNotN, ↓DL.isaB, String.reduceBEq, Bool.or_false, Bool.false_or, Bool.true_or, Bool.or_true, Bool.and_true, Bool.and_false, Bool.true_and, Bool.false_and, decide_true, decide_false, ↓DL.isNon, if_true, if_false, Bool.not_true, Bool.not_false, Bool.false_eq_true, reduceIte, true_and, and_true, ↓DL.dAddX, ↓DL.dMulX, ↓DL.dIxX, ↓DL.wSlX, ↓DL.dSlX, ↓DL.wSlL2, ↓DL.withL_rl, ↓DL.lsOf, ↓DL.wDerL, ↓DL.wFz, ↓DL.wFzR, ↓DL.frzD, ↓DL.wSide, ↓DL.wCatX, ↓DL.dEqA, ↓DL.scalEq, ↓DL.eqB, ↓DL.iLq, ↓DL.iSg, ↓DL.iEn, ↓DL.wM1, ↓DL.isStr, ↓DL.dJoin, ↓DL.dStrip, ↓DL.wSplit, ↓DL.dIntX, ↓DL.dInF, ↓DL.dInS, ↓DL.seqOf, ↓DL.wPar3, ↓DL.wFld, ↓DL.fldD, ↓DL.wSetF, ↓DL.setFD, ↓DL.wAugF, ↓DL.wMeth, ↓DL.recvD, ↓DL.wMake, ↓DL.fillP, ↓DL.wAsg2, ↓DL.gFldD, ↓DL.gStD, ↓DL.starV, ↓DL.gCs, ↓DL.gNl, ↓DL.gTp, Nat.add_zero, List.append_nil, List.zipWith_nil_left, List.zipWith_cons_cons, List.getD_cons_zero, ↓DL.wYes, reduceCtorEq, ↓DL.dEqX, ↓DL.dInD, DL.dataS_rl, DL.dataS_tup, DL.dataS_int, DL.dataS_str, DL.dataS_non, DL.dataD_nil, DL.dataD_ti, DL.dataD_li, ↓DL.isL2, ↓DL.dCountX, ↓DL.dIndexX, Option.isSome_some, ↓DL.dStrX, sp_begun]
      refine ⟨ns, hi, hn, fun b hb => ?_⟩
      have ePT' : sup S b .box PT = some (.tab "law.<locals>.<lambda>") := by rw [sup_ne (sne ePT hb)]; exact ePT
      have nS' : NoSS (sup S b .box) := n0S.sup rfl
      refine ⟨⟨by decide, by decide⟩, forW_ind (fun ds σ S' => (∃ o2 o3 o4 o5 o6 o7 o8 o9, σ = [some d, some (.ref b), o2, o3, o4, o5, o6, o7, o8, o9]) ∧ S' b = some .box ∧ S' PT = some (.tab "law.<locals>.<lambda>") ∧ NoSS S') ?_ ?_ ⟨⟨_, _, _, _, _, _, _, _, rfl⟩, sup_same, ePT', nS'⟩⟩
      · rintro σ S' ⟨⟨o2, o3, o4, o5, o6, o7, o8, o9, rfl⟩, -, -, -⟩
        refine ⟨True.intro, ?_⟩
        simp only [↓DL.wSeq, ↓DL.wSlT, ↓DL.wNo, ↓DL.wPart, ↓DL.dSlT, ↓DL.dCat, ↓DL.dListT, ↓DL.wFor, ↓DL.iR1, ↓DL.iR2, ↓DL.iTp, ↓DL.iLs, ↓DL.iNw, ↓DL.iLn, ↓DL.wNext, ↓DL.wIf, ↓DL.wRet, ↓DL.wRetN, ↓DL.wDrop, ↓DL.wAsg, ↓DL.gNm, ↓DL.wPar, ↓DL.wVar, ↓DL.wC, ↓DL.wOp, ↓DL.wUn, ↓DL.wTst, ↓DL.wChain, ↓DL.wAnd, ↓DL.wOr, ↓DL.wNot, ↓DL.wAndV, ↓DL.wOrV, ↓DL.wNotV, ↓DL.wIfE, ↓DL.wNil, ↓DL.wCons, ↓DL.wTup, ↓DL.wLst, ↓DL.wNew, ↓DL.wDer, ↓DL.wVL, ↓DL.wVLL, ↓DL.wALL, ↓DL.wCall, ↓DL.wIsa, ↓DL.wRaise, ↓DL.isB, ↓DL.dI0, ↓DL.dI, ↓DL.dU, ↓DL.dLen, ↓DL.dIx, ↓DL.gSubD, ↓DL.setD, ↓DL.wBM, ↓DL.isL, ↓DL.onL, ↓DL.dPopAt, ↓DL.dAppend, ↓DL.wIxV, ↓DL.wEqVL, ↓DL.wEqL, ↓DL.dEqS, ↓DL.dNeS, ↓DL.startD, List.map_cons, List.map_nil, List.length_cons, List.length_nil, List.cons_append, List.nil_append, List.replicate_succ, List.replicate_zero, List.getElem?_cons_zero, List.getElem?_cons_succ, List.set_cons_zero, List.set_cons_succ, Nat.reduceAdd, Nat.reduceSub, Nat.sub_self, ↓DL.kindD, ↓DL.dIsN, ↓DL.dNotN, ↓DL.isaB, String.reduceBEq, Bool.or_false, Bool.false_or, Bool.true_or, Bool.or_true, Bool.and_true, Bool.and_false, Bool.true_and, Bool.false_and, decide_true, decide_false, ↓DL.isNon, if_true, if_false, Bool.not_true, Bool.not_false, Bool.false_eq_true, reduceIte, true_and, and_true, ↓DL.dAddX, ↓DL.dMulX, ↓DL.dIxX, ↓DL.wSlX, ↓DL.dSlX, ↓DL.wSlL2, ↓DL.withL_rl, ↓DL.lsOf, ↓DL.wDerL, ↓DL.wFz, ↓DL.wFzR, ↓DL.frzD, ↓DL.wSide, ↓DL.wCatX, ↓DL.dEqA, ↓DL.scalEq, ↓DL.eqB, ↓DL.iLq, ↓DL.iSg, ↓DL.iEn, ↓DL.wM1, ↓DL.isStr, ↓DL.dJoin, ↓DL.dStrip, ↓DL.wSplit, ↓DL.dIntX, ↓DL.dInF, ↓DL.dInS, ↓DL.seqOf, ↓DL.wPar3, ↓DL.wFld, ↓DL.fldD, ↓DL.wSetF, ↓DL.setFD, ↓DL.wAugF, ↓DL.wMeth, ↓DL.recvD, ↓DL.wMake, ↓DL.fillP, ↓DL.wAsg2, ↓DL.gFldD, ↓DL.gStD, ↓DL.starV, ↓DL.gCs, ↓DL.gNl, ↓DL.gTp, Nat.add_zero, List.append_nil, List.zipWith_nil_left, List.zipWith_cons_cons, List.getD_cons_zero, ↓DL.wYes, reduceCtorEq, ↓DL.dEqX, ↓DL.dInD, DL.dataS_rl, DL.dataS_tup, DL.dataS_int, DL.dataS_str, DL.dataS_non, DL.dataD_nil, DL.dataD_ti, DL.dataD_li, ↓DL.isL2, ↓DL.dCountX, ↓DL.dIndexX, Option.isSome_some, ↓DL.dStrX]
        exact ⟨_, Le.refl _, h _⟩
      · rintro t ts σ S1 ⟨⟨o2, o3, o4, o5, o6, o7, o8, o9, rfl⟩, eb, eP, n1⟩ nx
        refine ⟨True.intro, ?_⟩
        generalize hst : forW _ _ _ ts _ = NX at nx ⊢
        clear hst
        simp only [↓DL.wSeq_nx, ↓DL.wSlT, ↓DL.wNo, ↓DL.wPart, ↓DL.dSlT, ↓DL.dCat, ↓DL.dListT, ↓DL.wFor, ↓DL.iR1, ↓DL.iR2, ↓DL.iTp, ↓DL.iLs, ↓DL.iNw, ↓DL.iLn, ↓DL.wNext, ↓DL.wIf, ↓DL.wRet, ↓DL.wRetN, ↓DL.wDrop, ↓DL.wAsg, ↓DL.gNm, ↓DL.wPar, ↓DL.wVar, ↓DL.wC, ↓DL.wOp, ↓DL.wUn, ↓DL.wTst, ↓DL.wChain, ↓DL.wAnd, ↓DL.wOr, ↓DL.wNot, ↓DL.wAndV, ↓DL.wOrV, ↓DL.wNotV, ↓DL.wIfE, ↓DL.wNil, ↓DL.wCons, ↓DL.wTup, ↓DL.wLst, ↓DL.wNew, ↓DL.wDer, ↓DL.wVL, ↓DL.wVLL, ↓DL.wALL, ↓DL.wCall, ↓DL.wIsa, ↓DL.wRaise, ↓DL.isB, ↓DL.dI0, ↓DL.dI, ↓DL.dU, ↓DL.dLen, ↓DL.dIx, ↓DL.gSubD, ↓DL.setD, ↓DL.wBM, ↓DL.isL, ↓DL.onL, ↓DL.dPopAt, ↓DL.dAppend, ↓DL.wIxV, ↓DL.wEqVL, ↓DL.wEqL, ↓DL.dEqS, ↓DL.dNeS, ↓DL.startD, List.map_cons, List.map_nil, List.length_cons, List.length_nil, List.cons_append, List.nil_append, List.replicate_succ, List.replicate_zero, List.getElem?_cons_zero, List.getElem?_cons_succ, List.set_cons_zero, List.set_cons_succ, Nat.reduceAdd, Nat.reduceSub, Nat.sub_self, ↓DL.kindD, ↓DL.dIsN, ↓DL.dNotN, ↓DL.isaB, String.reduceBEq, Bool.or_false, Bool.false_or, Bool.true_or, Bool.or_true, Bool.and_true, Bool.and_false, Bool.true_and, Bool.false_and, decide_true, decide_false, ↓DL.isNon, if_true, if_false, Bool.not_true, Bool.not_false, Bool.false_eq_true, reduceIte, true_and, and_true, ↓DL.dAddX, ↓DL.dMulX, ↓DL.dIxX, ↓DL.wSlX, ↓DL.dSlX, ↓DL.wSlL2, ↓DL.withL_rl, ↓DL.lsOf, ↓DL.wDerL, ↓DL.wFz, ↓DL.wFzR, ↓DL.frzD, ↓DL.wSide, ↓DL.wCatX, ↓DL.dEqA, ↓DL.scalEq, ↓DL.eqB, ↓DL.iLq, ↓DL.iSg, ↓DL.iEn, ↓DL.wM1, ↓DL.isStr, ↓DL.dJoin, ↓DL.dStrip, ↓DL.wSplit, ↓DL.dIntX, ↓DL.dInF, ↓DL.dInS, ↓DL.seqOf, ↓DL.wPar3, ↓DL.wFld, ↓DL.fldD, ↓DL.wSetF, ↓DL.setFD, ↓DL.wAugF, ↓DL.wMeth, ↓DL.recvD, ↓DL.wMake, ↓DL.fillP, ↓DL.wAsg2, ↓DL.gFldD, ↓DL.gStD, ↓DL.starV, ↓DL.gCs, ↓DL.gNl, ↓DL.gTp, Nat.add_zero, List.append_nil, List.zipWith_nil_left, List.zipWith_cons_cons, List.getD_cons_zero, ↓DL.wYes, reduceCtorEq, ↓DL.dEqX, ↓DL.dInD, DL.dataS_rl, DL.dataS_tup, DL.dataS_int, DL.dataS_str, DL.dataS_non, DL.dataD_nil, DL.dataD_ti, DL.dataD_li, ↓DL.isL2, ↓DL.dCountX, ↓DL.dIndexX, Option.isSome_some, ↓DL.dStrX, sp_take, ↓wLc]
        refine ⟨eb, ⟨by decide, by decide⟩, fun m m0 m1 => ⟨⟨by omega, by omega⟩, ?_⟩⟩
        refine lcW_rel (fun _ y => ∃ a : Int, y = .str (nS a) ∧ a.natAbs < 1000) True.intro (by simp [rngD]; rw [sizeLine_eq]; omega) (fun x hx Kt Z k => ?_) fun ys hys hr => ?_
        · obtain ⟨i, hi, rfl⟩ := List.mem_map.mp hx
          simp only [↓DL.wSeq, ↓DL.wSlT, ↓DL.wNo, ↓DL.wPart, ↓DL.dSlT, ↓DL.dCat, ↓DL.dListT, ↓DL.wFor, ↓DL.iR1, ↓DL.iR2, ↓DL.iTp, ↓DL.iLs, ↓DL.iNw, ↓DL.iLn, ↓DL.wNext, ↓DL.wIf, ↓DL.wRet, ↓DL.wRetN, ↓DL.wDrop, ↓DL.wAsg, ↓DL.gNm, ↓DL.wPar, ↓DL.wVar, ↓DL.wC, ↓DL.wOp, ↓DL.wUn, ↓DL.wTst, ↓DL.wChain, ↓DL.wAnd, ↓DL.wOr, ↓DL.wNot, ↓DL.wAndV, ↓DL.wOrV, ↓DL.wNotV, ↓DL.wIfE, ↓DL.wNil, ↓DL.wCons, ↓DL.wTup, ↓DL.wLst, ↓DL.wNew, ↓DL.wDer, ↓DL.wVL, ↓DL.wVLL, ↓DL.wALL, ↓DL.wCall, ↓DL.wIsa, ↓DL.wRaise, ↓DL.isB, ↓DL.dI0, ↓DL.dI, ↓DL.dU, ↓DL.dLen, ↓DL.dIx, ↓DL.gSubD, ↓DL.setD, ↓DL.wBM, ↓DL.isL, ↓DL.onL, ↓DL.dPopAt, ↓DL.dAppend, ↓DL.wIxV, ↓DL.wEqVL, ↓DL.wEqL, ↓DL.dEqS, ↓DL.dNeS, ↓DL.startD, List.map_cons, List.map_nil, List.length_cons, List.length_nil, List.cons_append, List.nil_append, List.replicate_succ, List.replicate_zero, List.getElem?_cons_zero, List.getElem?_cons_succ, List.set_cons_zero, List.set_cons_succ, Nat.reduceAdd, Nat.reduceSub, Nat.sub_self, ↓DL.kindD, ↓DL.dIsN, ↓DL.dNotN, ↓DL.isaB, String.reduceBEq, Bool.or_false, Bool.false_or, Bool.true_or, Bool.or_true, Bool.and_true, Bool.and_false, Bool.true_and, Bool.false_and, decide_true, decide_false, ↓DL.isNon, if_true, if_false, Bool.not_true, Bool.not_false, Bool.false_eq_true, reduceIte, true_and, and_true, ↓DL.dAddX, ↓DL.dMulX, ↓DL.dIxX, ↓DL.wSlX, ↓DL.dSlX, ↓DL.wSlL2, ↓DL.withL_rl, ↓DL.lsOf, ↓DL.wDerL, ↓DL.wFz, ↓DL.wFzR, ↓DL.frzD, ↓DL.wSide, ↓DL.wCatX, ↓DL.dEqA, ↓DL.scalEq, ↓DL.eqB, ↓DL.iLq, ↓DL.iSg, ↓DL.iEn, ↓DL.wM1, ↓DL.isStr, ↓DL.dJoin, ↓DL.dStrip, ↓DL.wSplit, ↓DL.dIntX, ↓DL.dInF, ↓DL.dInS, ↓DL.seqOf, ↓DL.wPar3, ↓DL.wFld, ↓DL.fldD, ↓DL.wSetF, ↓DL.setFD, ↓DL.wAugF, ↓DL.wMeth, ↓DL.recvD, ↓DL.wMake, ↓DL.fillP, ↓DL.wAsg2, ↓DL.gFldD, ↓DL.gStD, ↓DL.starV, ↓DL.gCs, ↓DL.gNl, ↓DL.gTp, Nat.add_zero, List.append_nil, List.zipWith_nil_left, List.zipWith_cons_cons, List.getD_cons_zero, ↓DL.wYes, reduceCtorEq, ↓DL.dEqX, ↓DL.dInD, DL.dataS_rl, DL.dataS_tup, DL.dataS_int, DL.dataS_str, DL.dataS_non, DL.dataD_nil, DL.dataD_ti, DL.dataD_li, ↓DL.isL2, ↓DL.dCountX, ↓DL.dIndexX, Option.isSome_some, ↓DL.dStrX, wipeD, sp_take]
          exact ⟨eb, ⟨by decide, by decide⟩, fun v v0 v1 => ⟨lg19 (by omega) (by omega), k _ ⟨v, rfl, by omega⟩⟩⟩
        have hl : ys.length = (2 + m).toNat := by simpa [rngD] using hys
        obtain ⟨as, rfl, ha⟩ := map_rel (f := fun a : Int => D.str (nS a)) hys hr
        rw [List.length_map] at hl
        clear hr hys
        have em : ∀ as : List Int, as.map (fun a : Int => D.str (nS a)) = (as.map nS).map D.str := fun as => by rw [List.map_map]; rfl
        rw [List.nil_append, em, DL.strs_map]
        have ws := Wd_sum (as.map nS)
        have wl := words_len as ha
        have l1 := line_len as ha
        rw [show (" " : Str).length = 1 from rfl]
        refine ⟨by omega, ?_⟩
        generalize Txt.join " " (as.map nS) = text at l1 ⊢
        unfold Nx
        simp only [↓DL.wSeq_nx, ↓DL.wSlT, ↓DL.wNo, ↓DL.wPart, ↓DL.dSlT, ↓DL.dCat, ↓DL.dListT, ↓DL.wFor, ↓DL.iR1, ↓DL.iR2, ↓DL.iTp, ↓DL.iLs, ↓DL.iNw, ↓DL.iLn, ↓DL.wNext, ↓DL.wIf, ↓DL.wRet, ↓DL.wRetN, ↓DL.wDrop, ↓DL.wAsg, ↓DL.gNm, ↓DL.wPar, ↓DL.wVar, ↓DL.wC, ↓DL.wOp, ↓DL.wUn, ↓DL.wTst, ↓DL.wChain, ↓DL.wAnd, ↓DL.wOr, ↓DL.wNot, ↓DL.wAndV, ↓DL.wOrV, ↓DL.wNotV, ↓DL.wIfE, ↓DL.wNil, ↓DL.wCons, ↓DL.wTup, ↓DL.wLst, ↓DL.wNew, ↓DL.wDer, ↓DL.wVL, ↓DL.wVLL, ↓DL.wALL, ↓DL.wCall, ↓DL.wIsa, ↓DL.wRaise, ↓DL.isB, ↓DL.dI0, ↓DL.dI, ↓DL.dU, ↓DL.dLen, ↓DL.dIx, ↓DL.gSubD, ↓DL.setD, ↓DL.wBM, ↓DL.isL, ↓DL.onL, ↓DL.dPopAt, ↓DL.dAppend, ↓DL.wIxV, ↓DL.wEqVL, ↓DL.wEqL, ↓DL.dEqS, ↓DL.dNeS, ↓DL.startD, List.map_cons, List.map_nil, List.length_cons, List.length_nil, List.cons_append, List.nil_append, List.replicate_succ, List.replicate_zero, List.getElem?_cons_zero, List.getElem?_cons_succ, List.set_cons_zero, List.set_cons_succ, Nat.reduceAdd, Nat.reduceSub, Nat.sub_self, ↓DL.kindD, ↓DL.dIsN, ↓DL.dNotN, ↓DL.isaB, String.reduceBEq, Bool.or_false, Bool.false_or, Bool.true_or, Bool.or_true, Bool.and_true, Bool.and_false, Bool.true_and, Bool.false_and, decide_true, decide_false, ↓DL.isNon, if_true, if_false, Bool.not_true, Bool.not_false, Bool.false_eq_true, reduceIte, true_and, and_true, ↓DL.dAddX, ↓DL.dMulX, ↓DL.dIxX, ↓DL.wSlX, ↓DL.dSlX, ↓DL.wSlL2, ↓DL.withL_rl, ↓DL.lsOf, ↓DL.wDerL, ↓DL.wFz, ↓DL.wFzR, ↓DL.frzD, ↓DL.wSide, ↓DL.wCatX, ↓DL.dEqA, ↓DL.scalEq, ↓DL.eqB, ↓DL.iLq, ↓DL.iSg, ↓DL.iEn, ↓DL.wM1, ↓DL.isStr, ↓DL.dJoin, ↓DL.dStrip, ↓DL.wSplit, ↓DL.dIntX, ↓DL.dInF, ↓DL.dInS, ↓DL.seqOf, ↓DL.wPar3, ↓DL.wFld, ↓DL.fldD, ↓DL.wSetF, ↓DL.setFD, ↓DL.wAugF, ↓DL.wMeth, ↓DL.recvD, ↓DL.wMake, ↓DL.fillP, ↓DL.wAsg2, ↓DL.gFldD, ↓DL.gStD, ↓DL.starV, ↓DL.gCs, ↓DL.gNl, ↓DL.gTp, Nat.add_zero, List.append_nil, List.zipWith_nil_left, List.zipWith_cons_cons, List.getD_cons_zero, ↓DL.wYes, reduceCtorEq, ↓DL.dEqX, ↓DL.dInD, DL.dataS_rl, DL.dataS_tup, DL.dataS_int, DL.dataS_str, DL.dataS_non, DL.dataD_nil, DL.dataD_ti, DL.dataD_li, ↓DL.isL2, ↓DL.dCountX, ↓DL.dIndexX, Option.isSome_some, ↓DL.dStrX]
        refine ⟨Nat.zero_le _, fun rw_ hrw => ?_⟩
        have brw : b ≠ rw_ := sne eb hrw
        have prw : PT ≠ rw_ := sne eP hrw
        unfold Nx
        simp only [↓DL.wSeq_nx, ↓DL.wSlT, ↓DL.wNo, ↓DL.wPart, ↓DL.dSlT, ↓DL.dCat, ↓DL.dListT, ↓DL.wFor, ↓DL.iR1, ↓DL.iR2, ↓DL.iTp, ↓DL.iLs, ↓DL.iNw, ↓DL.iLn, ↓DL.wNext, ↓DL.wIf, ↓DL.wRet, ↓DL.wRetN, ↓DL.wDrop, ↓DL.wAsg, ↓DL.gNm, ↓DL.wPar, ↓DL.wVar, ↓DL.wC, ↓DL.wOp, ↓DL.wUn, ↓DL.wTst, ↓DL.wChain, ↓DL.wAnd, ↓DL.wOr, ↓DL.wNot, ↓DL.wAndV, ↓DL.wOrV, ↓DL.wNotV, ↓DL.wIfE, ↓DL.wNil, ↓DL.wCons, ↓DL.wTup, ↓DL.wLst, ↓DL.wNew, ↓DL.wDer, ↓DL.wVL, ↓DL.wVLL, ↓DL.wALL, ↓DL.wCall, ↓DL.wIsa, ↓DL.wRaise, ↓DL.isB, ↓DL.dI0, ↓DL.dI, ↓DL.dU, ↓DL.dLen, ↓DL.dIx, ↓DL.gSubD, ↓DL.setD, ↓DL.wBM, ↓DL.isL, ↓DL.onL, ↓DL.dPopAt, ↓DL.dAppend, ↓DL.wIxV, ↓DL.wEqVL, ↓DL.wEqL, ↓DL.dEqS, ↓DL.dNeS, ↓DL.startD, List.map_cons, List.map_nil, List.length_cons, List.length_nil, List.cons_append, List.nil_append, List.replicate_succ, List.replicate_zero, List.getElem?_cons_zero, List.getElem?_cons_succ, List.set_cons_zero, List.set_cons_succ, Nat.reduceAdd, Nat.reduceSub, Nat.sub_self, ↓DL.kindD, ↓DL.dIsN, ↓DL.dNotN, ↓DL.isaB, String.reduceBEq, Bool.or_false, Bool.false_or, Bool.true_or, Bool.or_true, Bool.and_true, Bool.and_false, Bool.true_and, Bool.false_and, decide_true, decide_false, ↓DL.isNon, if_true, if_false, Bool.not_true, Bool.not_false, Bool.false_eq_true, reduceIte, true_and, and_true, ↓DL.dAddX, ↓DL.dMulX, ↓DL.dIxX, ↓DL.wSlX, ↓DL.dSlX, ↓DL.wSlL2, ↓DL.withL_rl, ↓DL.lsOf, ↓DL.wDerL, ↓DL.wFz, ↓DL.wFzR, ↓DL.frzD, ↓DL.wSide, ↓DL.wCatX, ↓DL.dEqA, ↓DL.scalEq, ↓DL.eqB, ↓DL.iLq, ↓DL.iSg, ↓DL.iEn, ↓DL.wM1, ↓DL.isStr, ↓DL.dJoin, ↓DL.dStrip, ↓DL.wSplit, ↓DL.dIntX, ↓DL.dInF, ↓DL.dInS, ↓DL.seqOf, ↓DL.wPar3, ↓DL.wFld, ↓DL.fldD, ↓DL.wSetF, ↓DL.setFD, ↓DL.wAugF, ↓DL.wMeth, ↓DL.recvD, ↓DL.wMake, ↓DL.fillP, ↓DL.wAsg2, ↓DL.gFldD, ↓DL.gStD, ↓DL.starV, ↓DL.gCs, ↓DL.gNl, ↓DL.gTp, Nat.add_zero, List.append_nil, List.zipWith_nil_left, List.zipWith_cons_cons, List.getD_cons_zero, ↓DL.wYes, reduceCtorEq, ↓DL.dEqX, ↓DL.dInD, DL.dataS_rl, DL.dataS_tup, DL.dataS_int, DL.dataS_str, DL.dataS_non, DL.dataD_nil, DL.dataD_ti, DL.dataD_li, ↓DL.isL2, ↓DL.dCountX, ↓DL.dIndexX, Option.isSome_some, ↓DL.dStrX, sp_take]
        have eb1 : sup S1 rw_ (.lst []) b = some .box := by rw [sup_ne brw]; exact eb
        refine ⟨eb1, ⟨by decide, by decide⟩, fun c c0 c1 => ⟨⟨by omega, by omega⟩, ?_⟩⟩
        refine forW_ind (fun ds σ S' => ∃ (o4 o6 : Option D) (lines : List Str), σ = [some d, some (.ref b), some t, some (.str text), o4, some (.ref rw_), o6, o7, o8, o9] ∧ S' b = some .box ∧ S' PT = some (.tab "law.<locals>.<lambda>") ∧ NoSS S' ∧ S' rw_ = some (.lst (lines.map D.str)) ∧ lines.length + ds.length ≤ 5 ∧ Wd lines ≤ 55 * lines.length) ?_ ?_ ⟨_, _, [], rfl, eb1, by rw [sup_ne prw]; exact eP, n1.sup rfl, sup_same, by simp [rngD]; omega, by simp [Wd]⟩
        · rintro σ S2 ⟨o4, o6, lines, rfl, eb, eP, n1, erw, l5, wd⟩
          refine ⟨trivial, ?_⟩
          rw [List.length_nil] at l5
          unfold Nx
          simp only [↓DL.wSeq_nx, ↓DL.wSlT, ↓DL.wNo, ↓DL.wPart, ↓DL.dSlT, ↓DL.dCat, ↓DL.dListT, ↓DL.wFor, ↓DL.iR1, ↓DL.iR2, ↓DL.iTp, ↓DL.iLs, ↓DL.iNw, ↓DL.iLn, ↓DL.wNext, ↓DL.wIf, ↓DL.wRet, ↓DL.wRetN, ↓DL.wDrop, ↓DL.wAsg, ↓DL.gNm, ↓DL.wPar, ↓DL.wVar, ↓DL.wC, ↓DL.wOp, ↓DL.wUn, ↓DL.wTst, ↓DL.wChain, ↓DL.wAnd, ↓DL.wOr, ↓DL.wNot, ↓DL.wAndV, ↓DL.wOrV, ↓DL.wNotV, ↓DL.wIfE, ↓DL.wNil, ↓DL.wCons, ↓DL.wTup, ↓DL.wLst, ↓DL.wNew, ↓DL.wDer, ↓DL.wVL, ↓DL.wVLL, ↓DL.wALL, ↓DL.wCall, ↓DL.wIsa, ↓DL.wRaise, ↓DL.isB, ↓DL.dI0, ↓DL.dI, ↓DL.dU, ↓DL.dLen, ↓DL.dIx, ↓DL.gSubD, ↓DL.setD, ↓DL.wBM, ↓DL.isL, ↓DL.onL, ↓DL.dPopAt, ↓DL.dAppend, ↓DL.wIxV, ↓DL.wEqVL, ↓DL.wEqL, ↓DL.dEqS, ↓DL.dNeS, ↓DL.startD, List.map_cons, List.map_nil, List.length_cons, List.length_nil, List.cons_append, List.nil_append, List.replicate_succ, List.replicate_zero, List.getElem?_cons_zero, List.getElem?_cons_succ, List.set_cons_zero, List.set_cons_succ, Nat.reduceAdd, Nat.reduceSub, Nat.sub_self, ↓DL.kindD, ↓DL.dIsN, ↓DL.dNotN, ↓DL.isaB, String.reduceBEq, Bool.or_false, Bool.false_or, Bool.true_or, Bool.or_true, Bool.and_true, Bool.and_false, Bool.true_and, Bool.false_and, decide_true, decide_false, ↓DL.isNon, if_true, if_false, Bool.not_true, Bool.not_false, Bool.false_eq_true, reduceIte, true_and, and_true, ↓DL.dAddX, ↓DL.dMulX, ↓DL.dIxX, ↓DL.wSlX, ↓DL.dSlX, ↓DL.wSlL2, ↓DL.withL_rl, ↓DL.lsOf, ↓DL.wDerL, ↓DL.wFz, ↓DL.wFzR, ↓DL.frzD, ↓DL.wSide, ↓DL.wCatX, ↓DL.dEqA, ↓DL.scalEq, ↓DL.eqB, ↓DL.iLq, ↓DL.iSg, ↓DL.iEn, ↓DL.wM1, ↓DL.isStr, ↓DL.dJoin, ↓DL.dStrip, ↓DL.wSplit, ↓DL.dIntX, ↓DL.dInF, ↓DL.dInS, ↓DL.seqOf, ↓DL.wPar3, ↓DL.wFld, ↓DL.fldD, ↓DL.wSetF, ↓DL.setFD, ↓DL.wAugF, ↓DL.wMeth, ↓DL.recvD, ↓DL.wMake, ↓DL.fillP, ↓DL.wAsg2, ↓DL.gFldD, ↓DL.gStD, ↓DL.starV, ↓DL.gCs, ↓DL.gNl, ↓DL.gTp, Nat.add_zero, List.append_nil, List.zipWith_nil_left, List.zipWith_cons_cons, List.getD_cons_zero, ↓DL.wYes, reduceCtorEq, ↓DL.dEqX, ↓DL.dInD, DL.dataS_rl, DL.dataS_tup, DL.dataS_int, DL.dataS_str, DL.dataS_non, DL.dataD_nil, DL.dataD_ti, DL.dataD_li, ↓DL.isL2, ↓DL.dCountX, ↓DL.dIndexX, Option.isSome_some, ↓DL.dStrX, erw, DL.strs_map]
          have ws := Wd_sum lines
          have j1 := join_one (y := "\n") rfl lines
          have j2 := Vw_le lines
          rw [show ("\n" : Str).length = 1 from rfl]
          refine ⟨by omega, ?_⟩
          have ll : (Txt.join "\n" lines).length ≤ 300 := by omega
          generalize Txt.join "\n" lines = logt at ll ⊢
          clear erw ws j1 j2 wd
          unfold Nx
          simp only [↓DL.wSeq_nx, ↓DL.wSlT, ↓DL.wNo, ↓DL.wPart, ↓DL.dSlT, ↓DL.dCat, ↓DL.dListT, ↓DL.wFor, ↓DL.iR1, ↓DL.iR2, ↓DL.iTp, ↓DL.iLs, ↓DL.iNw, ↓DL.iLn, ↓DL.wNext, ↓DL.wIf, ↓DL.wRet, ↓DL.wRetN, ↓DL.wDrop, ↓DL.wAsg, ↓DL.gNm, ↓DL.wPar, ↓DL.wVar, ↓DL.wC, ↓DL.wOp, ↓DL.wUn, ↓DL.wTst, ↓DL.wChain, ↓DL.wAnd, ↓DL.wOr, ↓DL.wNot, ↓DL.wAndV, ↓DL.wOrV, ↓DL.wNotV, ↓DL.wIfE, ↓DL.wNil, ↓DL.wCons, ↓DL.wTup, ↓DL.wLst, ↓DL.wNew, ↓DL.wDer, ↓DL.wVL, ↓DL.wVLL, ↓DL.wALL, ↓DL.wCall, ↓DL.wIsa, ↓DL.wRaise, ↓DL.isB, ↓DL.dI0, ↓DL.dI, ↓DL.dU, ↓DL.dLen, ↓DL.dIx, ↓DL.gSubD, ↓DL.setD, ↓DL.wBM, ↓DL.isL, ↓DL.onL, ↓DL.dPopAt, ↓DL.dAppend, ↓DL.wIxV, ↓DL.wEqVL, ↓DL.wEqL, ↓DL.dEqS, ↓DL.dNeS, ↓DL.startD, List.map_cons, List.map_nil, List.length_cons, List.length_nil, List.cons_append, List.nil_append, List.replicate_succ, List.replicate_zero, List.getElem?_cons_zero, List.getElem?_cons_succ, List.set_cons_zero, List.set_cons_succ, Nat.reduceAdd, Nat.reduceSub, Nat.sub_self, ↓DL.kindD, ↓DL.dIsN, ↓DL.dNotN, ↓DL.isaB, String.reduceBEq, Bool.or_false, Bool.false_or, Bool.true_or, Bool.or_true, Bool.and_true, Bool.and_false, Bool.true_and, Bool.false_and, decide_true, decide_false, ↓DL.isNon, if_true, if_false, Bool.not_true, Bool.not_false, Bool.false_eq_true, reduceIte, true_and, and_true, ↓DL.dAddX, ↓DL.dMulX, ↓DL.dIxX, ↓DL.wSlX, ↓DL.dSlX, ↓DL.wSlL2, ↓DL.withL_rl, ↓DL.lsOf, ↓DL.wDerL, ↓DL.wFz, ↓DL.wFzR, ↓DL.frzD, ↓DL.wSide, ↓DL.wCatX, ↓DL.dEqA, ↓DL.scalEq, ↓DL.eqB, ↓DL.iLq, ↓DL.iSg, ↓DL.iEn, ↓DL.wM1, ↓DL.isStr, ↓DL.dJoin, ↓DL.dStrip, ↓DL.wSplit, ↓DL.dIntX, ↓DL.dInF, ↓DL.dInS, ↓DL.seqOf, ↓DL.wPar3, ↓DL.wFld, ↓DL.fldD, ↓DL.wSetF, ↓DL.setFD, ↓DL.wAugF, ↓DL.wMeth, ↓DL.recvD, ↓DL.wMake, ↓DL.fillP, ↓DL.wAsg2, ↓DL.gFldD, ↓DL.gStD, ↓DL.starV, ↓DL.gCs, ↓DL.gNl, ↓DL.gTp, Nat.add_zero, List.append_nil, List.zipWith_nil_left, List.zipWith_cons_cons, List.getD_cons_zero, ↓DL.wYes, reduceCtorEq, ↓DL.dEqX, ↓DL.dInD, DL.dataS_rl, DL.dataS_tup, DL.dataS_int, DL.dataS_str, DL.dataS_non, DL.dataD_nil, DL.dataD_ti, DL.dataD_li, ↓DL.isL2, ↓DL.dCountX, ↓DL.dIndexX, Option.isSome_some, ↓DL.dStrX, sp_take]
          refine ⟨eb, ⟨by decide, by decide⟩, fun r r0 r1 => ⟨⟨by omega, by omega⟩, ?_⟩⟩
          refine forW_ind (fun ds σ S' => ∃ (o8 : Option D) (text logt : Str), σ = [some d, some (.ref b), some t, some (.str text), o4, some (.ref rw_), o6, some (.str logt), o8, o9] ∧ S' b = some .box ∧ S' PT = some (.tab "law.<locals>.<lambda>") ∧ NoSS S' ∧ ds.length ≤ 4 ∧ (text.length + 10) * 2 ^ ds.length ≤ 4960 ∧ (logt.length + 10) * 2 ^ ds.length ≤ 4960) ?_ ?_ ⟨_, text, logt, rfl, eb, eP, n1, by simp [rngD]; omega, ?_, ?_⟩
          · rintro σ S3 ⟨o8, text, logt, rfl, eb, eP, n1, -, b1, b2⟩
            refine ⟨trivial, ?_⟩
            rw [List.length_nil, Nat.pow_zero, Nat.mul_one] at b1 b2
            unfold Nx
            simp only [↓DL.wSeq_nx, ↓DL.wSlT, ↓DL.wNo, ↓DL.wPart, ↓DL.dSlT, ↓DL.dCat, ↓DL.dListT, ↓DL.wFor, ↓DL.iR1, ↓DL.iR2, ↓DL.iTp, ↓DL.iLs, ↓DL.iNw, ↓DL.iLn, ↓DL.wNext, ↓DL.wIf, ↓DL.wRet, ↓DL.wRetN, ↓DL.wDrop, ↓DL.wAsg, ↓DL.gNm, ↓DL.wPar, ↓DL.wVar, ↓DL.wC, ↓DL.wOp, ↓DL.wUn, ↓DL.wTst, ↓DL.wChain, ↓DL.wAnd, ↓DL.wOr, ↓DL.wNot, ↓DL.wAndV, ↓DL.wOrV, ↓DL.wNotV, ↓DL.wIfE, ↓DL.wNil, ↓DL.wCons, ↓DL.wTup, ↓DL.wLst, ↓DL.wNew, ↓DL.wDer, ↓DL.wVL, ↓DL.wVLL, ↓DL.wALL, ↓DL.wCall, ↓DL.wIsa, ↓DL.wRaise, ↓DL.isB, ↓DL.dI0, ↓DL.dI, ↓DL.dU, ↓DL.dLen, ↓DL.dIx, ↓DL.gSubD, ↓DL.setD, ↓DL.wBM, ↓DL.isL, ↓DL.onL, ↓DL.dPopAt, ↓DL.dAppend, ↓DL.wIxV, ↓DL.wEqVL, ↓DL.wEqL, ↓DL.dEqS, ↓DL.dNeS, ↓DL.startD, List.map_cons, List.map_nil, List.length_cons, List.length_nil, List.cons_append, List.nil_append, List.replicate_succ, List.replicate_zero, List.getElem?_cons_zero, List.getElem?_cons_succ, List.set_cons_zero, List.set_cons_succ, Nat.reduceAdd, Nat.reduceSub, Nat.sub_self, ↓DL.kindD, ↓DL.dIsN, ↓DL.dNotN, ↓DL.isaB, String.reduceBEq, Bool.or_false, Bool.false_or, Bool.true_or, Bool.or_true, Bool.and_true, Bool.and_false, Bool.true_and, Bool.false_and, decide_true, decide_false, ↓DL.isNon, if_true, if_false, Bool.not_true, Bool.not_false, Bool.false_eq_true, reduceIte, true_and, and_true, ↓DL.dAddX, ↓DL.dMulX, ↓DL.dIxX, ↓DL.wSlX, ↓DL.dSlX, ↓DL.wSlL2, ↓DL.withL_rl, ↓DL.lsOf, ↓DL.wDerL, ↓DL.wFz, ↓DL.wFzR, ↓DL.frzD, ↓DL.wSide, ↓DL.wCatX, ↓DL.dEqA, ↓DL.scalEq, ↓DL.eqB, ↓DL.iLq, ↓DL.iSg, ↓DL.iEn, ↓DL.wM1, ↓DL.isStr, ↓DL.dJoin, ↓DL.dStrip, ↓DL.wSplit, ↓DL.dIntX, ↓DL.dInF, ↓DL.dInS, ↓DL.seqOf, ↓DL.wPar3, ↓DL.wFld, ↓DL.fldD, ↓DL.wSetF, ↓DL.setFD, ↓DL.wAugF, ↓DL.wMeth, ↓DL.recvD, ↓DL.wMake, ↓DL.fillP, ↓DL.wAsg2, ↓DL.gFldD, ↓DL.gStD, ↓DL.starV, ↓DL.gCs, ↓DL.gNl, ↓DL.gTp, Nat.add_zero, List.append_nil, List.zipWith_nil_left, List.zipWith_cons_cons, List.getD_cons_zero, ↓DL.wYes, reduceCtorEq, ↓DL.dEqX, ↓DL.dInD, DL.dataS_rl, DL.dataS_tup, DL.dataS_int, DL.dataS_str, DL.dataS_non, DL.dataD_nil, DL.dataD_ti, DL.dataD_li, ↓DL.isL2, ↓DL.dCountX, ↓DL.dIndexX, Option.isSome_some, ↓DL.dStrX]
            refine ⟨⟨by decide, by decide⟩, forW_ind (fun ds σ S' => (∃ o9, σ = [some d, some (.ref b), some t, some (.str text), o4, some (.ref rw_), o6, some (.str logt), o8, o9]) ∧ S' b = some .box ∧ S' PT = some (.tab "law.<locals>.<lambda>") ∧ NoSS S') ?_ ?_ ⟨⟨_, rfl⟩, eb, eP, n1⟩⟩
            · rintro σ S4 ⟨⟨o9, rfl⟩, eb, eP, n1⟩
              exact ⟨trivial, nx _ _ ⟨⟨_, _, _, _, _, _, _, _, rfl⟩, eb, eP, n1⟩⟩
            · rintro d4 ds4 σ S4 ⟨⟨o9, rfl⟩, eb, eP, n1⟩ nx4
              refine ⟨trivial, ?_⟩
              generalize hst4 : forW _ _ _ ds4 _ = NX4 at nx4 ⊢
              clear hst4
              simp only [↓DL.wSeq_nx, ↓DL.wSlT, ↓DL.wNo, ↓DL.wPart, ↓DL.dSlT, ↓DL.dCat, ↓DL.dListT, ↓DL.wFor, ↓DL.iR1, ↓DL.iR2, ↓DL.iTp, ↓DL.iLs, ↓DL.iNw, ↓DL.iLn, ↓DL.wNext, ↓DL.wIf, ↓DL.wRet, ↓DL.wRetN, ↓DL.wDrop, ↓DL.wAsg, ↓DL.gNm, ↓DL.wPar, ↓DL.wVar, ↓DL.wC, ↓DL.wOp, ↓DL.wUn, ↓DL.wTst, ↓DL.wChain, ↓DL.wAnd, ↓DL.wOr, ↓DL.wNot, ↓DL.wAndV, ↓DL.wOrV, ↓DL.wNotV, ↓DL.wIfE, ↓DL.wNil, ↓DL.wCons, ↓DL.wTup, ↓DL.wLst, ↓DL.wNew, ↓DL.wDer, ↓DL.wVL, ↓DL.wVLL, ↓DL.wALL, ↓DL.wCall, ↓DL.wIsa, ↓DL.wRaise, ↓DL.isB, ↓DL.dI0, ↓DL.dI, ↓DL.dU, ↓DL.dLen, ↓DL.dIx, ↓DL.gSubD, ↓DL.setD, ↓DL.wBM, ↓DL.isL, ↓DL.onL, ↓DL.dPopAt, ↓DL.dAppend, ↓DL.wIxV, ↓DL.wEqVL, ↓DL.wEqL, ↓DL.dEqS, ↓DL.dNeS, ↓DL.startD, List.map_cons, List.map_nil, List.length_cons, List.length_nil, List.cons_append, List.nil_append, List.replicate_succ, List.replicate_zero, List.getElem?_cons_zero, List.getElem?_cons_succ, List.set_cons_zero, List.set_cons_succ, Nat.reduceAdd, Nat.reduceSub, Nat.sub_self, ↓DL.kindD, ↓DL.dIsN, ↓DL.dNotN, ↓DL.isaB, String.reduceBEq, Bool.or_false, Bool.false_or, Bool.true_or, Bool.or_true, Bool.and_true, Bool.and_false, Bool.true_and, Bool.false_and, decide_true, decide_false, ↓DL.isNon, if_true, if_false, Bool.not_true, Bool.not_false, Bool.false_eq_true, reduceIte, true_and, and_true, ↓DL.dAddX, ↓DL.dMulX, ↓DL.dIxX, ↓DL.wSlX, ↓DL.dSlX, ↓DL.wSlL2, ↓DL.withL_rl, ↓DL.lsOf, ↓DL.wDerL, ↓DL.wFz, ↓DL.wFzR, ↓DL.frzD, ↓DL.wSide, ↓DL.wCatX, ↓DL.dEqA, ↓DL.scalEq, ↓DL.eqB, ↓DL.iLq, ↓DL.iSg, ↓DL.iEn, ↓DL.wM1, ↓DL.isStr, ↓DL.dJoin, ↓DL.dStrip, ↓DL.wSplit, ↓DL.dIntX, ↓DL.dInF, ↓DL.dInS, ↓DL.seqOf, ↓DL.wPar3, ↓DL.wFld, ↓DL.fldD, ↓DL.wSetF, ↓DL.setFD, ↓DL.wAugF, ↓DL.wMeth, ↓DL.recvD, ↓DL.wMake, ↓DL.fillP, ↓DL.wAsg2, ↓DL.gFldD, ↓DL.gStD, ↓DL.starV, ↓DL.gCs, ↓DL.gNl, ↓DL.gTp, Nat.add_zero, List.append_nil, List.zipWith_nil_left, List.zipWith_cons_cons, List.getD_cons_zero, ↓DL.wYes, reduceCtorEq, ↓DL.dEqX, ↓DL.dInD, DL.dataS_rl, DL.dataS_tup, DL.dataS_int, DL.dataS_str, DL.dataS_non, DL.dataD_nil, DL.dataD_ti, DL.dataD_li, ↓DL.isL2, ↓DL.dCountX, ↓DL.dIndexX, Option.isSome_some, ↓DL.dStrX, wCallS, wLam, valsD]
              refine ⟨eP, seal_toldR (fun d S' => d = tokD (rdTok text) ∧ S' b = some .box ∧ S' PT = some (.tab "law.<locals>.<lambda>")) n1 (fun q hq => by rw [List.mem_singleton.mp hq]; rfl) ⟨lamF_by rfl (fun _ _ _ _ _ _ => rfl) (fun h => absurd h (show ¬ (0 : Nat) = 1 by decide)), fun A outer s H E cl f c hr => (dpe_cal c_read hr (by first | decide | omega) rfl (takes_of rfl rfl rfl rfl) (dpa_cons (dv 0) dpa_nil))⟩ ?_ ?_⟩
              · simp only [↓DL.wSeq, ↓DL.wSlT, ↓DL.wNo, ↓DL.wPart, ↓DL.dSlT, ↓DL.dCat, ↓DL.dListT, ↓DL.wFor, ↓DL.iR1, ↓DL.iR2, ↓DL.iTp, ↓DL.iLs, ↓DL.iNw, ↓DL.iLn, ↓DL.wNext, ↓DL.wIf, ↓DL.wRet, ↓DL.wRetN, ↓DL.wDrop, ↓DL.wAsg, ↓DL.gNm, ↓DL.wPar, ↓DL.wVar, ↓DL.wC, ↓DL.wOp, ↓DL.wUn, ↓DL.wTst, ↓DL.wChain, ↓DL.wAnd, ↓DL.wOr, ↓DL.wNot, ↓DL.wAndV, ↓DL.wOrV, ↓DL.wNotV, ↓DL.wIfE, ↓DL.wNil, ↓DL.wCons, ↓DL.wTup, ↓DL.wLst, ↓DL.wNew, ↓DL.wDer, ↓DL.wVL, ↓DL.wVLL, ↓DL.wALL, ↓DL.wCall, ↓DL.wIsa, ↓DL.wRaise, ↓DL.isB, ↓DL.dI0, ↓DL.dI, ↓DL.dU, ↓DL.dLen, ↓DL.dIx, ↓DL.gSubD, ↓DL.setD, ↓DL.wBM, ↓DL.isL, ↓DL.onL, ↓DL.dPopAt, ↓DL.dAppend, ↓DL.wIxV, ↓DL.wEqVL, ↓DL.wEqL, ↓DL.dEqS, ↓DL.dNeS, ↓DL.startD, List.map_cons, List.map_nil, List.length_cons, List.length_nil, List.cons_append, List.nil_append, List.replicate_succ, List.replicate_zero, List.getElem?_cons_zero, List.getElem?_cons_succ, List.set_cons_zero, List.set_cons_succ, Nat.reduceAdd, Nat.reduceSub, Nat.sub_self, ↓DL.kindD, ↓DL.dIsN, ↓DL.dNotN, ↓DL.isaB, String.reduceBEq, Bool.or_false, Bool.false_or, Bool.true_or, Bool.or_true, Bool.and_true, Bool.and_false, Bool.true_and, Bool.false_and, decide_true, decide_false, ↓DL.isNon, if_true, if_false, Bool.not_true, Bool.not_false, Bool.false_eq_true, reduceIte, true_and, and_true, ↓DL.dAddX, ↓DL.dMulX, ↓DL.dIxX, ↓DL.wSlX, ↓DL.dSlX, ↓DL.wSlL2, ↓DL.withL_rl, ↓DL.lsOf, ↓DL.wDerL, ↓DL.wFz, ↓DL.wFzR, ↓DL.frzD, ↓DL.wSide, ↓DL.wCatX, ↓DL.dEqA, ↓DL.scalEq, ↓DL.eqB, ↓DL.iLq, ↓DL.iSg, ↓DL.iEn, ↓DL.wM1, ↓DL.isStr, ↓DL.dJoin, ↓DL.dStrip, ↓DL.wSplit, ↓DL.dIntX, ↓DL.dInF, ↓DL.dInS, ↓DL.seqOf, ↓DL.wPar3, ↓DL.wFld, ↓DL.fldD, ↓DL.wSetF, ↓DL.setFD, ↓DL.wAugF, ↓DL.wMeth, ↓DL.recvD, ↓DL.wMake, ↓DL.fillP, ↓DL.wAsg2, ↓DL.gFldD, ↓DL.gStD, ↓DL.starV, ↓DL.gCs, ↓DL.gNl, ↓DL.gTp, Nat.add_zero, List.append_nil, List.zipWith_nil_left, List.zipWith_cons_cons, List.getD_cons_zero, ↓DL.wYes, reduceCtorEq, ↓DL.dEqX, ↓DL.dInD, DL.dataS_rl, DL.dataS_tup, DL.dataS_int, DL.dataS_str, DL.dataS_non, DL.dataD_nil, DL.dataD_ti, DL.dataD_li, ↓DL.isL2, ↓DL.dCountX, ↓DL.dIndexX, Option.isSome_some, ↓DL.dStrX, sp_read]
                refine ⟨text, rfl, by omega, ?_⟩
                cases e : rdTok text with
                | inl ns => exact ⟨noSs_ints ns, n1, rfl, eb, eP⟩
                | inr k =>
                  cases k with
                  | false => exact ⟨rfl, _, rfl, rfl, n1, rfl, eb, eP⟩
                  | true =>
                    intro dd hd
                    exact ⟨rfl, _, by simp only [toldD, sup_same]; rfl, rfl, n1.sup rfl, rfl, by rw [sup_ne (sne eb hd)]; exact eb, by rw [sup_ne (sne eP hd)]; exact eP⟩
              rintro d5 S5 n5 ⟨rfl, eb, eP⟩
              simp only [↓DL.wSeq_nx, ↓DL.wSlT, ↓DL.wNo, ↓DL.wPart, ↓DL.dSlT, ↓DL.dCat, ↓DL.dListT, ↓DL.wFor, ↓DL.iR1, ↓DL.iR2, ↓DL.iTp, ↓DL.iLs, ↓DL.iNw, ↓DL.iLn, ↓DL.wNext, ↓DL.wIf, ↓DL.wRet, ↓DL.wRetN, ↓DL.wDrop, ↓DL.wAsg, ↓DL.gNm, ↓DL.wPar, ↓DL.wVar, ↓DL.wC, ↓DL.wOp, ↓DL.wUn, ↓DL.wTst, ↓DL.wChain, ↓DL.wAnd, ↓DL.wOr, ↓DL.wNot, ↓DL.wAndV, ↓DL.wOrV, ↓DL.wNotV, ↓DL.wIfE, ↓DL.wNil, ↓DL.wCons, ↓DL.wTup, ↓DL.wLst, ↓DL.wNew, ↓DL.wDer, ↓DL.wVL, ↓DL.wVLL, ↓DL.wALL, ↓DL.wCall, ↓DL.wIsa, ↓DL.wRaise, ↓DL.isB, ↓DL.dI0, ↓DL.dI, ↓DL.dU, ↓DL.dLen, ↓DL.dIx, ↓DL.gSubD, ↓DL.setD, ↓DL.wBM, ↓DL.isL, ↓DL.onL, ↓DL.dPopAt, ↓DL.dAppend, ↓DL.wIxV, ↓DL.wEqVL, ↓DL.wEqL, ↓DL.dEqS, ↓DL.dNeS, ↓DL.startD, List.map_cons, List.map_nil, List.length_cons, List.length_nil, List.cons_append, List.nil_append, List.replicate_succ, List.replicate_zero, List.getElem?_cons_zero, List.getElem?_cons_succ, List.set_cons_zero, List.set_cons_succ, Nat.reduceAdd, Nat.reduceSub, Nat.sub_self, ↓DL.kindD, ↓DL.dIsN, ↓DL.dNotN, ↓DL.isaB, String.reduceBEq, Bool.or_false, Bool.false_or, Bool.true_or, Bool.or_true, Bool.and_true, Bool.and_false, Bool.true_and, Bool.false_and, decide_true, decide_false, ↓DL.isNon, if_true, if_false, Bool.not_true, Bool.not_false, Bool.false_eq_true, reduceIte, true_and, and_true, ↓DL.dAddX, ↓DL.dMulX, ↓DL.dIxX, ↓DL.wSlX, ↓DL.dSlX, ↓DL.wSlL2, ↓DL.withL_rl, ↓DL.lsOf, ↓DL.wDerL, ↓DL.wFz, ↓DL.wFzR, ↓DL.frzD, ↓DL.wSide, ↓DL.wCatX, ↓DL.dEqA, ↓DL.scalEq, ↓DL.eqB, ↓DL.iLq, ↓DL.iSg, ↓DL.iEn, ↓DL.wM1, ↓DL.isStr, ↓DL.dJoin, ↓DL.dStrip, ↓DL.wSplit, ↓DL.dIntX, ↓DL.dInF, ↓DL.dInS, ↓DL.seqOf, ↓DL.wPar3, ↓DL.wFld, ↓DL.fldD, ↓DL.wSetF, ↓DL.setFD, ↓DL.wAugF, ↓DL.wMeth, ↓DL.recvD, ↓DL.wMake, ↓DL.fillP, ↓DL.wAsg2, ↓DL.gFldD, ↓DL.gStD, ↓DL.starV, ↓DL.gCs, ↓DL.gNl, ↓DL.gTp, Nat.add_zero, List.append_nil, List.zipWith_nil_left, List.zipWith_cons_cons, List.getD_cons_zero, ↓DL.wYes, reduceCtorEq, ↓DL.dEqX, ↓DL.dInD, DL.dataS_rl, DL.dataS_tup, DL.dataS_int, DL.dataS_str, DL.dataS_non, DL.dataD_nil, DL.dataD_ti, DL.dataD_li, ↓DL.isL2, ↓DL.dCountX, ↓DL.dIndexX, Option.isSome_some, ↓DL.dStrX, sp_ltoken, sp_alike]
              obtain ⟨g1, g2⟩ := rdTok_gd text (by omega)
              refine ⟨text, rfl, by omega, alk_refl g1 g2, ?_⟩
              unfold Nx
              simp only [↓DL.wSeq_nx, ↓DL.wSlT, ↓DL.wNo, ↓DL.wPart, ↓DL.dSlT, ↓DL.dCat, ↓DL.dListT, ↓DL.wFor, ↓DL.iR1, ↓DL.iR2, ↓DL.iTp, ↓DL.iLs, ↓DL.iNw, ↓DL.iLn, ↓DL.wNext, ↓DL.wIf, ↓DL.wRet, ↓DL.wRetN, ↓DL.wDrop, ↓DL.wAsg, ↓DL.gNm, ↓DL.wPar, ↓DL.wVar, ↓DL.wC, ↓DL.wOp, ↓DL.wUn, ↓DL.wTst, ↓DL.wChain, ↓DL.wAnd, ↓DL.wOr, ↓DL.wNot, ↓DL.wAndV, ↓DL.wOrV, ↓DL.wNotV, ↓DL.wIfE, ↓DL.wNil, ↓DL.wCons, ↓DL.wTup, ↓DL.wLst, ↓DL.wNew, ↓DL.wDer, ↓DL.wVL, ↓DL.wVLL, ↓DL.wALL, ↓DL.wCall, ↓DL.wIsa, ↓DL.wRaise, ↓DL.isB, ↓DL.dI0, ↓DL.dI, ↓DL.dU, ↓DL.dLen, ↓DL.dIx, ↓DL.gSubD, ↓DL.setD, ↓DL.wBM, ↓DL.isL, ↓DL.onL, ↓DL.dPopAt, ↓DL.dAppend, ↓DL.wIxV, ↓DL.wEqVL, ↓DL.wEqL, ↓DL.dEqS, ↓DL.dNeS, ↓DL.startD, List.map_cons, List.map_nil, List.length_cons, List.length_nil, List.cons_append, List.nil_append, List.replicate_succ, List.replicate_zero, List.getElem?_cons_zero, List.getElem?_cons_succ, List.set_cons_zero, List.set_cons_succ, Nat.reduceAdd, Nat.reduceSub, Nat.sub_self, ↓DL.kindD, ↓DL.dIsN, ↓DL.dNotN, ↓DL.isaB, String.reduceBEq, Bool.or_false, Bool.false_or, Bool.true_or, Bool.or_true, Bool.and_true, Bool.and_false, Bool.true_and, Bool.false_and, decide_true, decide_false, ↓DL.isNon, if_true, if_false, Bool.not_true, Bool.not_false, Bool.false_eq_true, reduceIte, true_and, and_true, ↓DL.dAddX, ↓DL.dMulX, ↓DL.dIxX, ↓DL.wSlX, ↓DL.dSlX, ↓DL.wSlL2, ↓DL.withL_rl, ↓DL.lsOf, ↓DL.wDerL, ↓DL.wFz, ↓DL.wFzR, ↓DL.wSide, ↓DL.wCatX, ↓DL.dEqA, ↓DL.scalEq, ↓DL.eqB, ↓DL.iLq, ↓DL.iSg, ↓DL.iEn, ↓DL.wM1, ↓DL.isStr, ↓DL.dJoin, ↓DL.dStrip, ↓DL.wSplit, ↓DL.dIntX, ↓DL.dInF, ↓DL.dInS, ↓DL.seqOf, ↓DL.wPar3, ↓DL.wFld, ↓DL.fldD, ↓DL.wSetF, ↓DL.setFD, ↓DL.wAugF, ↓DL.wMeth, ↓DL.recvD, ↓DL.wMake, ↓DL.fillP, ↓DL.wAsg2, ↓DL.gFldD, ↓DL.gStD, ↓DL.starV, ↓DL.gCs, ↓DL.gNl, ↓DL.gTp, Nat.add_zero, List.append_nil, List.zipWith_nil_left, List.zipWith_cons_cons, List.getD_cons_zero, ↓DL.wYes, reduceCtorEq, ↓DL.dEqX, ↓DL.dInD, DL.dataS_rl, DL.dataS_tup, DL.dataS_int, DL.dataS_str, DL.dataS_non, DL.dataD_nil, DL.dataD_ti, DL.dataD_li, ↓DL.isL2, ↓DL.dCountX, ↓DL.dIndexX, Option.isSome_some, ↓DL.dStrX, wCallS, wLam, valsD]
              refine ⟨eP, seal_toldR (fun d S' => (match rdLog (rowsOf logt) 0 with | .inl ps => ∃ l, d = .ref l ∧ S' l = some (.lst (ps.map PutR.d)) | .inr r => d = .tup [.str "BadText", .int r]) ∧ S' b = some .box ∧ S' PT = some (.tab "law.<locals>.<lambda>")) n5 (fun q hq => by rw [List.mem_singleton.mp hq]; rfl) ⟨lamF_by rfl (fun _ _ _ _ _ _ => rfl) (fun h => absurd h (show ¬ (0 : Nat) = 1 by decide)), fun A outer s H E cl f c hr => (dpe_cal c_read_log hr (by first | decide | omega) rfl (takes_of rfl rfl rfl rfl) (dpa_cons (dv 0) dpa_nil))⟩ ?_ ?_⟩
              · simp only [↓DL.wSeq, ↓DL.wSlT, ↓DL.wNo, ↓DL.wPart, ↓DL.dSlT, ↓DL.dCat, ↓DL.dListT, ↓DL.wFor, ↓DL.iR1, ↓DL.iR2, ↓DL.iTp, ↓DL.iLs, ↓DL.iNw, ↓DL.iLn, ↓DL.wNext, ↓DL.wIf, ↓DL.wRet, ↓DL.wRetN, ↓DL.wDrop, ↓DL.wAsg, ↓DL.gNm, ↓DL.wPar, ↓DL.wVar, ↓DL.wC, ↓DL.wOp, ↓DL.wUn, ↓DL.wTst, ↓DL.wChain, ↓DL.wAnd, ↓DL.wOr, ↓DL.wNot, ↓DL.wAndV, ↓DL.wOrV, ↓DL.wNotV, ↓DL.wIfE, ↓DL.wNil, ↓DL.wCons, ↓DL.wTup, ↓DL.wLst, ↓DL.wNew, ↓DL.wDer, ↓DL.wVL, ↓DL.wVLL, ↓DL.wALL, ↓DL.wCall, ↓DL.wIsa, ↓DL.wRaise, ↓DL.isB, ↓DL.dI0, ↓DL.dI, ↓DL.dU, ↓DL.dLen, ↓DL.dIx, ↓DL.gSubD, ↓DL.setD, ↓DL.wBM, ↓DL.isL, ↓DL.onL, ↓DL.dPopAt, ↓DL.dAppend, ↓DL.wIxV, ↓DL.wEqVL, ↓DL.wEqL, ↓DL.dEqS, ↓DL.dNeS, ↓DL.startD, List.map_cons, List.map_nil, List.length_cons, List.length_nil, List.cons_append, List.nil_append, List.replicate_succ, List.replicate_zero, List.getElem?_cons_zero, List.getElem?_cons_succ, List.set_cons_zero, List.set_cons_succ, Nat.reduceAdd, Nat.reduceSub, Nat.sub_self, ↓DL.kindD, ↓DL.dIsN, ↓DL.dNotN, ↓DL.isaB, String.reduceBEq, Bool.or_false, Bool.false_or, Bool.true_or, Bool.or_true, Bool.and_true, Bool.and_false, Bool.true_and, Bool.false_and, decide_true, decide_false, ↓DL.isNon, if_true, if_false, Bool.not_true, Bool.not_false, Bool.false_eq_true, reduceIte, true_and, and_true, ↓DL.dAddX, ↓DL.dMulX, ↓DL.dIxX, ↓DL.wSlX, ↓DL.dSlX, ↓DL.wSlL2, ↓DL.withL_rl, ↓DL.lsOf, ↓DL.wDerL, ↓DL.wFz, ↓DL.wFzR, ↓DL.frzD, ↓DL.wSide, ↓DL.wCatX, ↓DL.dEqA, ↓DL.scalEq, ↓DL.eqB, ↓DL.iLq, ↓DL.iSg, ↓DL.iEn, ↓DL.wM1, ↓DL.isStr, ↓DL.dJoin, ↓DL.dStrip, ↓DL.wSplit, ↓DL.dIntX, ↓DL.dInF, ↓DL.dInS, ↓DL.seqOf, ↓DL.wPar3, ↓DL.wFld, ↓DL.fldD, ↓DL.wSetF, ↓DL.setFD, ↓DL.wAugF, ↓DL.wMeth, ↓DL.recvD, ↓DL.wMake, ↓DL.fillP, ↓DL.wAsg2, ↓DL.gFldD, ↓DL.gStD, ↓DL.starV, ↓DL.gCs, ↓DL.gNl, ↓DL.gTp, Nat.add_zero, List.append_nil, List.zipWith_nil_left, List.zipWith_cons_cons, List.getD_cons_zero, ↓DL.wYes, reduceCtorEq, ↓DL.dEqX, ↓DL.dInD, DL.dataS_rl, DL.dataS_tup, DL.dataS_int, DL.dataS_str, DL.dataS_non, DL.dataD_nil, DL.dataD_ti, DL.dataD_li, ↓DL.isL2, ↓DL.dCountX, ↓DL.dIndexX, Option.isSome_some, ↓DL.dStrX, sp_read_log]
                refine ⟨logt, rfl, by omega, ?_⟩
                cases e : rdLog (rowsOf logt) 0 with
                | inl ps => exact fun l hl => ⟨rfl, n5.sup (noSs_puts ps), ⟨l, rfl, sup_same⟩, by rw [sup_ne (sne eb hl)]; exact eb, by rw [sup_ne (sne eP hl)]; exact eP⟩
                | inr r =>
                  intro dd hd
                  exact ⟨rfl, _, by simp only [toldD, sup_same]; rfl, rfl, n5.sup rfl, rfl, by rw [sup_ne (sne eb hd)]; exact eb, by rw [sup_ne (sne eP hd)]; exact eP⟩
              rintro d6 S6 n6 ⟨h6, eb, eP⟩
              have lr : (rowsOf logt).length ≤ 10001 := by
                unfold rowsOf
                split
                · simp
                · have := split_len logt sepN
                  omega
              have fin : ∀ S7 : Store, (∀ a o, S6 a = some o → S7 a = some o) → NoSS S7 → NX4 [some d, some (.ref b), some t, some (.str text), o4, some (.ref rw_), o6, some (.str logt), o8, some d4] S7 := fun S7 l7 n7 => nx4 _ _ ⟨⟨_, rfl⟩, l7 _ _ eb, l7 _ _ eP, n7⟩
              simp only [↓DL.wSeq_nx, ↓DL.wSlT, ↓DL.wNo, ↓DL.wPart, ↓DL.dSlT, ↓DL.dCat, ↓DL.dListT, ↓DL.wFor, ↓DL.iR1, ↓DL.iR2, ↓DL.iTp, ↓DL.iLs, ↓DL.iNw, ↓DL.iLn, ↓DL.wNext, ↓DL.wIf, ↓DL.wRet, ↓DL.wRetN, ↓DL.wDrop, ↓DL.wAsg, ↓DL.gNm, ↓DL.wPar, ↓DL.wVar, ↓DL.wC, ↓DL.wOp, ↓DL.wUn, ↓DL.wTst, ↓DL.wChain, ↓DL.wAnd, ↓DL.wOr, ↓DL.wNot, ↓DL.wAndV, ↓DL.wOrV, ↓DL.wNotV, ↓DL.wIfE, ↓DL.wNil, ↓DL.wCons, ↓DL.wTup, ↓DL.wLst, ↓DL.wNew, ↓DL.wDer, ↓DL.wVL, ↓DL.wVLL, ↓DL.wALL, ↓DL.wCall, ↓DL.wIsa, ↓DL.wRaise, ↓DL.isB, ↓DL.dI0, ↓DL.dI, ↓DL.dU, ↓DL.dLen, ↓DL.dIx, ↓DL.gSubD, ↓DL.setD, ↓DL.wBM, ↓DL.isL, ↓DL.onL, ↓DL.dPopAt, ↓DL.dAppend, ↓DL.wIxV, ↓DL.wEqVL, ↓DL.wEqL, ↓DL.dEqS, ↓DL.dNeS, ↓DL.startD, List.map_cons, List.map_nil, List.length_cons, List.length_nil, List.cons_append, List.nil_append, List.replicate_succ, List.replicate_zero, List.getElem?_cons_zero, List.getElem?_cons_succ, List.set_cons_zero, List.set_cons_succ, Nat.reduceAdd, Nat.reduceSub, Nat.sub_self, ↓DL.kindD, ↓DL.dIsN, ↓DL.dNotN, ↓DL.isaB, String.reduceBEq, Bool.or_false, Bool.false_or, Bool.true_or, Bool.or_true, Bool.and_true, Bool.and_false, Bool.true_and, Bool.false_and, decide_true, decide_false, ↓DL.isNon, if_true, if_false, Bool.not_true, Bool.not_false, Bool.false_eq_true, reduceIte, true_and, and_true, ↓DL.dAddX, ↓DL.dMulX, ↓DL.dIxX, ↓DL.wSlX, ↓DL.dSlX, ↓DL.wSlL2, ↓DL.withL_rl, ↓DL.lsOf, ↓DL.wDerL, ↓DL.wFz, ↓DL.wFzR, ↓DL.wSide, ↓DL.wCatX, ↓DL.dEqA, ↓DL.scalEq, ↓DL.eqB, ↓DL.iLq, ↓DL.iSg, ↓DL.iEn, ↓DL.wM1, ↓DL.isStr, ↓DL.dJoin, ↓DL.dStrip, ↓DL.wSplit, ↓DL.dIntX, ↓DL.dInF, ↓DL.dInS, ↓DL.seqOf, ↓DL.wPar3, ↓DL.wFld, ↓DL.fldD, ↓DL.wSetF, ↓DL.setFD, ↓DL.wAugF, ↓DL.wMeth, ↓DL.recvD, ↓DL.wMake, ↓DL.fillP, ↓DL.wAsg2, ↓DL.gFldD, ↓DL.gStD, ↓DL.starV, ↓DL.gCs, ↓DL.gNl, ↓DL.gTp, Nat.add_zero, List.append_nil, List.zipWith_nil_left, List.zipWith_cons_cons, List.getD_cons_zero, ↓DL.wYes, reduceCtorEq, ↓DL.dEqX, ↓DL.dInD, DL.dataS_rl, DL.dataS_tup, DL.dataS_int, DL.dataS_str, DL.dataS_non, DL.dataD_nil, DL.dataD_ti, DL.dataD_li, ↓DL.isL2, ↓DL.dCountX, ↓DL.dIndexX, Option.isSome_some, ↓DL.dStrX, sp_llog, sp_alike]
              refine ⟨logt, rfl, by omega, ?_⟩
              cases e : rdLog (rowsOf logt) 0 with
              | inl ps =>
                rw [e] at h6
                obtain ⟨l6, rfl, e6⟩ := h6
                obtain ⟨p1, p2⟩ := rdLog_ok e
                intro l7 hl7
                unfold frzD
                dsimp only
                rw [sup_same]
                dsimp only
                rw [sdel_sup hl7]
                (try simp only [↓DL.wSeq_nx, ↓DL.wSlT, ↓DL.wNo, ↓DL.wPart, ↓DL.dSlT, ↓DL.dCat, ↓DL.dListT, ↓DL.wFor, ↓DL.iR1, ↓DL.iR2, ↓DL.iTp, ↓DL.iLs, ↓DL.iNw, ↓DL.iLn, ↓DL.wNext, ↓DL.wIf, ↓DL.wRet, ↓DL.wRetN, ↓DL.wDrop, ↓DL.wAsg, ↓DL.gNm, ↓DL.wPar, ↓DL.wVar, ↓DL.wC, ↓DL.wOp, ↓DL.wUn, ↓DL.wTst, ↓DL.wChain, ↓DL.wAnd, ↓DL.wOr, ↓DL.wNot, ↓DL.wAndV, ↓DL.wOrV, ↓DL.wNotV, ↓DL.wIfE, ↓DL.wNil, ↓DL.wCons, ↓DL.wTup, ↓DL.wLst, ↓DL.wNew, ↓DL.wDer, ↓DL.wVL, ↓DL.wVLL, ↓DL.wALL, ↓DL.wCall, ↓DL.wIsa, ↓DL.wRaise, ↓DL.isB, ↓DL.dI0, ↓DL.dI, ↓DL.dU, ↓DL.dLen, ↓DL.dIx, ↓DL.gSubD, ↓DL.setD, ↓DL.wBM, ↓DL.isL, ↓DL.onL, ↓DL.dPopAt, ↓DL.dAppend, ↓DL.wIxV, ↓DL.wEqVL, ↓DL.wEqL, ↓DL.dEqS, ↓DL.dNeS, ↓DL.startD, List.map_cons, List.map_nil, List.length_cons, List.length_nil, List.cons_append, List.nil_append, List.replicate_succ, List.replicate_zero, List.getElem?_cons_zero, List.getElem?_cons_succ, List.set_cons_zero, List.set_cons_succ, Nat.reduceAdd, Nat.reduceSub, Nat.sub_self, ↓DL.kindD, ↓DL.dIsN, ↓DL.dNotN, ↓DL.isaB, String.reduceBEq, Bool.or_false, Bool.false_or, Bool.true_or, Bool.or_true, Bool.and_true, Bool.and_false, Bool.true_and, Bool.false_and, decide_true, decide_false, ↓DL.isNon, if_true, if_false, Bool.not_true, Bool.not_false, Bool.false_eq_true, reduceIte, true_and, and_true, ↓DL.dAddX, ↓DL.dMulX, ↓DL.dIxX, ↓DL.wSlX, ↓DL.dSlX, ↓DL.wSlL2, ↓DL.withL_rl, ↓DL.lsOf, ↓DL.wDerL, ↓DL.wFz, ↓DL.wFzR, ↓DL.frzD, ↓DL.wSide, ↓DL.wCatX, ↓DL.dEqA, ↓DL.scalEq, ↓DL.eqB, ↓DL.iLq, ↓DL.iSg, ↓DL.iEn, ↓DL.wM1, ↓DL.isStr, ↓DL.dJoin, ↓DL.dStrip, ↓DL.wSplit, ↓DL.dIntX, ↓DL.dInF, ↓DL.dInS, ↓DL.seqOf, ↓DL.wPar3, ↓DL.wFld, ↓DL.fldD, ↓DL.wSetF, ↓DL.setFD, ↓DL.wAugF, ↓DL.wMeth, ↓DL.recvD, ↓DL.wMake, ↓DL.fillP, ↓DL.wAsg2, ↓DL.gFldD, ↓DL.gStD, ↓DL.starV, ↓DL.gCs, ↓DL.gNl, ↓DL.gTp, Nat.add_zero, List.append_nil, List.zipWith_nil_left, List.zipWith_cons_cons, List.getD_cons_zero, ↓DL.wYes, reduceCtorEq, ↓DL.dEqX, ↓DL.dInD, DL.dataS_rl, DL.dataS_tup, DL.dataS_int, DL.dataS_str, DL.dataS_non, DL.dataD_nil, DL.dataD_ti, DL.dataD_li, ↓DL.isL2, ↓DL.dCountX, ↓DL.dIndexX, Option.isSome_some, ↓DL.dStrX, sp_alike])
                refine ⟨alk_ref_rl e6 ?_ ?_, ?_⟩
                · rw [gd, gds_puts p2, Bool.and_true, decide_eq_true_eq, List.length_map]
                  omega
                · have := deps_puts ps
                  rw [dep]
                  omega
                · first | exact fin _ (fun _ _ z => z) n6 | (unfold Nx; simp only [↓DL.wSeq, ↓DL.wSlT, ↓DL.wNo, ↓DL.wPart, ↓DL.dSlT, ↓DL.dCat, ↓DL.dListT, ↓DL.wFor, ↓DL.iR1, ↓DL.iR2, ↓DL.iTp, ↓DL.iLs, ↓DL.iNw, ↓DL.iLn, ↓DL.wNext, ↓DL.wIf, ↓DL.wRet, ↓DL.wRetN, ↓DL.wDrop, ↓DL.wAsg, ↓DL.gNm, ↓DL.wPar, ↓DL.wVar, ↓DL.wC, ↓DL.wOp, ↓DL.wUn, ↓DL.wTst, ↓DL.wChain, ↓DL.wAnd, ↓DL.wOr, ↓DL.wNot, ↓DL.wAndV, ↓DL.wOrV, ↓DL.wNotV, ↓DL.wIfE, ↓DL.wNil, ↓DL.wCons, ↓DL.wTup, ↓DL.wLst, ↓DL.wNew, ↓DL.wDer, ↓DL.wVL, ↓DL.wVLL, ↓DL.wALL, ↓DL.wCall, ↓DL.wIsa, ↓DL.wRaise, ↓DL.isB, ↓DL.dI0, ↓DL.dI, ↓DL.dU, ↓DL.dLen, ↓DL.dIx, ↓DL.gSubD, ↓DL.setD, ↓DL.wBM, ↓DL.isL, ↓DL.onL, ↓DL.dPopAt, ↓DL.dAppend, ↓DL.wIxV, ↓DL.wEqVL, ↓DL.wEqL, ↓DL.dEqS, ↓DL.dNeS, ↓DL.startD, List.map_cons, List.map_nil, List.length_cons, List.length_nil, List.cons_append, List.nil_append, List.replicate_succ, List.replicate_zero, List.getElem?_cons_zero, List.getElem?_cons_succ, List.set_cons_zero, List.set_cons_succ, Nat.reduceAdd, Nat.reduceSub, Nat.sub_self, ↓DL.kindD, ↓DL.dIsN, ↓DL.dNotN, ↓DL.isaB, String.reduceBEq, Bool.or_false, Bool.false_or, Bool.true_or, Bool.or_true, Bool.and_true, Bool.and_false, Bool.true_and, Bool.false_and, decide_true, decide_false, ↓DL.isNon, if_true, if_false, Bool.not_true, Bool.not_false, Bool.false_eq_true, reduceIte, true_and, and_true, ↓DL.dAddX, ↓DL.dMulX, ↓DL.dIxX, ↓DL.wSlX, ↓DL.dSlX, ↓DL.wSlL2, ↓DL.withL_rl, ↓DL.lsOf, ↓DL.wDerL, ↓DL.wFz, ↓DL.wFzR, ↓DL.frzD, ↓DL.wSide, ↓DL.wCatX, ↓DL.dEqA, ↓DL.scalEq, ↓DL.eqB, ↓DL.iLq, ↓DL.iSg, ↓DL.iEn, ↓DL.wM1, ↓DL.isStr, ↓DL.dJoin, ↓DL.dStrip, ↓DL.wSplit, ↓DL.dIntX, ↓DL.dInF, ↓DL.dInS, ↓DL.seqOf, ↓DL.wPar3, ↓DL.wFld, ↓DL.fldD, ↓DL.wSetF, ↓DL.setFD, ↓DL.wAugF, ↓DL.wMeth, ↓DL.recvD, ↓DL.wMake, ↓DL.fillP, ↓DL.wAsg2, ↓DL.gFldD, ↓DL.gStD, ↓DL.starV, ↓DL.gCs, ↓DL.gNl, ↓DL.gTp, Nat.add_zero, List.append_nil, List.zipWith_nil_left, List.zipWith_cons_cons, List.getD_cons_zero, ↓DL.wYes, reduceCtorEq, ↓DL.dEqX, ↓DL.dInD, DL.dataS_rl, DL.dataS_tup, DL.dataS_int, DL.dataS_str, DL.dataS_non, DL.dataD_nil, DL.dataD_ti, DL.dataD_li, ↓DL.isL2, ↓DL.dCountX, ↓DL.dIndexX, Option.isSome_some, ↓DL.dStrX]; exact fin _ (fun _ _ z => z) n6)
              | inr r =>
                rw [e] at h6
                subst h6
                simp only [↓DL.wSeq, ↓DL.wSlT, ↓DL.wNo, ↓DL.wPart, ↓DL.dSlT, ↓DL.dCat, ↓DL.dListT, ↓DL.wFor, ↓DL.iR1, ↓DL.iR2, ↓DL.iTp, ↓DL.iLs, ↓DL.iNw, ↓DL.iLn, ↓DL.wNext, ↓DL.wIf, ↓DL.wRet, ↓DL.wRetN, ↓DL.wDrop, ↓DL.wAsg, ↓DL.gNm, ↓DL.wPar, ↓DL.wVar, ↓DL.wC, ↓DL.wOp, ↓DL.wUn, ↓DL.wTst, ↓DL.wChain, ↓DL.wAnd, ↓DL.wOr, ↓DL.wNot, ↓DL.wAndV, ↓DL.wOrV, ↓DL.wNotV, ↓DL.wIfE, ↓DL.wNil, ↓DL.wCons, ↓DL.wTup, ↓DL.wLst, ↓DL.wNew, ↓DL.wDer, ↓DL.wVL, ↓DL.wVLL, ↓DL.wALL, ↓DL.wCall, ↓DL.wIsa, ↓DL.wRaise, ↓DL.isB, ↓DL.dI0, ↓DL.dI, ↓DL.dU, ↓DL.dLen, ↓DL.dIx, ↓DL.gSubD, ↓DL.setD, ↓DL.wBM, ↓DL.isL, ↓DL.onL, ↓DL.dPopAt, ↓DL.dAppend, ↓DL.wIxV, ↓DL.wEqVL, ↓DL.wEqL, ↓DL.dEqS, ↓DL.dNeS, ↓DL.startD, List.map_cons, List.map_nil, List.length_cons, List.length_nil, List.cons_append, List.nil_append, List.replicate_succ, List.replicate_zero, List.getElem?_cons_zero, List.getElem?_cons_succ, List.set_cons_zero, List.set_cons_succ, Nat.reduceAdd, Nat.reduceSub, Nat.sub_self, ↓DL.kindD, ↓DL.dIsN, ↓DL.dNotN, ↓DL.isaB, String.reduceBEq, Bool.or_false, Bool.false_or, Bool.true_or, Bool.or_true, Bool.and_true, Bool.and_false, Bool.true_and, Bool.false_and, decide_true, decide_false, ↓DL.isNon, if_true, if_false, Bool.not_true, Bool.not_false, Bool.false_eq_true, reduceIte, true_and, and_true, ↓DL.dAddX, ↓DL.dMulX, ↓DL.dIxX, ↓DL.wSlX, ↓DL.dSlX, ↓DL.wSlL2, ↓DL.withL_rl, ↓DL.lsOf, ↓DL.wDerL, ↓DL.wFz, ↓DL.wFzR, ↓DL.frzD, ↓DL.wSide, ↓DL.wCatX, ↓DL.dEqA, ↓DL.scalEq, ↓DL.eqB, ↓DL.iLq, ↓DL.iSg, ↓DL.iEn, ↓DL.wM1, ↓DL.isStr, ↓DL.dJoin, ↓DL.dStrip, ↓DL.wSplit, ↓DL.dIntX, ↓DL.dInF, ↓DL.dInS, ↓DL.seqOf, ↓DL.wPar3, ↓DL.wFld, ↓DL.fldD, ↓DL.wSetF, ↓DL.setFD, ↓DL.wAugF, ↓DL.wMeth, ↓DL.recvD, ↓DL.wMake, ↓DL.fillP, ↓DL.wAsg2, ↓DL.gFldD, ↓DL.gStD, ↓DL.starV, ↓DL.gCs, ↓DL.gNl, ↓DL.gTp, Nat.add_zero, List.append_nil, List.zipWith_nil_left, List.zipWith_cons_cons, List.getD_cons_zero, ↓DL.wYes, reduceCtorEq, ↓DL.dEqX, ↓DL.dInD, DL.dataS_rl, DL.dataS_tup, DL.dataS_int, DL.dataS_str, DL.dataS_non, DL.dataD_nil, DL.dataD_ti, DL.dataD_li, ↓DL.isL2, ↓DL.dCountX, ↓DL.dIndexX, Option.isSome_some, ↓DL.dStrX]
                refine ⟨alk_refl (by simp [gd, gds]) (by simp [dep, deps]), ?_⟩
                first | exact fin _ (fun _ _ z => z) n6 | (unfold Nx; simp only [↓DL.wSeq, ↓DL.wSlT, ↓DL.wNo, ↓DL.wPart, ↓DL.dSlT, ↓DL.dCat, ↓DL.dListT, ↓DL.wFor, ↓DL.iR1, ↓DL.iR2, ↓DL.iTp, ↓DL.iLs, ↓DL.iNw, ↓DL.iLn, ↓DL.wNext, ↓DL.wIf, ↓DL.wRet, ↓DL.wRetN, ↓DL.wDrop, ↓DL.wAsg, ↓DL.gNm, ↓DL.wPar, ↓DL.wVar, ↓DL.wC, ↓DL.wOp, ↓DL.wUn, ↓DL.wTst, ↓DL.wChain, ↓DL.wAnd, ↓DL.wOr, ↓DL.wNot, ↓DL.wAndV, ↓DL.wOrV, ↓DL.wNotV, ↓DL.wIfE, ↓DL.wNil, ↓DL.wCons, ↓DL.wTup, ↓DL.wLst, ↓DL.wNew, ↓DL.wDer, ↓DL.wVL, ↓DL.wVLL, ↓DL.wALL, ↓DL.wCall, ↓DL.wIsa, ↓DL.wRaise, ↓DL.isB, ↓DL.dI0, ↓DL.dI, ↓DL.dU, ↓DL.dLen, ↓DL.dIx, ↓DL.gSubD, ↓DL.setD, ↓DL.wBM, ↓DL.isL, ↓DL.onL, ↓DL.dPopAt, ↓DL.dAppend, ↓DL.wIxV, ↓DL.wEqVL, ↓DL.wEqL, ↓DL.dEqS, ↓DL.dNeS, ↓DL.startD, List.map_cons, List.map_nil, List.length_cons, List.length_nil, List.cons_append, List.nil_append, List.replicate_succ, List.replicate_zero, List.getElem?_cons_zero, List.getElem?_cons_succ, List.set_cons_zero, List.set_cons_succ, Nat.reduceAdd, Nat.reduceSub, Nat.sub_self, ↓DL.kindD, ↓DL.dIsN, ↓DL.dNotN, ↓DL.isaB, String.reduceBEq, Bool.or_false, Bool.false_or, Bool.true_or, Bool.or_true, Bool.and_true, Bool.and_false, Bool.true_and, Bool.false_and, decide_true, decide_false, ↓DL.isNon, if_true, if_false, Bool.not_true, Bool.not_false, Bool.false_eq_true, reduceIte, true_and, and_true, ↓DL.dAddX, ↓DL.dMulX, ↓DL.dIxX, ↓DL.wSlX, ↓DL.dSlX, ↓DL.wSlL2, ↓DL.withL_rl, ↓DL.lsOf, ↓DL.wDerL, ↓DL.wFz, ↓DL.wFzR, ↓DL.frzD, ↓DL.wSide, ↓DL.wCatX, ↓DL.dEqA, ↓DL.scalEq, ↓DL.eqB, ↓DL.iLq, ↓DL.iSg, ↓DL.iEn, ↓DL.wM1, ↓DL.isStr, ↓DL.dJoin, ↓DL.dStrip, ↓DL.wSplit, ↓DL.dIntX, ↓DL.dInF, ↓DL.dInS, ↓DL.seqOf, ↓DL.wPar3, ↓DL.wFld, ↓DL.fldD, ↓DL.wSetF, ↓DL.setFD, ↓DL.wAugF, ↓DL.wMeth, ↓DL.recvD, ↓DL.wMake, ↓DL.fillP, ↓DL.wAsg2, ↓DL.gFldD, ↓DL.gStD, ↓DL.starV, ↓DL.gCs, ↓DL.gNl, ↓DL.gTp, Nat.add_zero, List.append_nil, List.zipWith_nil_left, List.zipWith_cons_cons, List.getD_cons_zero, ↓DL.wYes, reduceCtorEq, ↓DL.dEqX, ↓DL.dInD, DL.dataS_rl, DL.dataS_tup, DL.dataS_int, DL.dataS_str, DL.dataS_non, DL.dataD_nil, DL.dataD_ti, DL.dataD_li, ↓DL.isL2, ↓DL.dCountX, ↓DL.dIndexX, Option.isSome_some, ↓DL.dStrX]; exact fin _ (fun _ _ z => z) n6)
          · rintro d3 ds3 σ S3 ⟨o8, text, logt, rfl, eb, eP, n1, d4, b1, b2⟩ nx3
            refine ⟨trivial, ?_⟩
            rw [List.length_cons, Nat.pow_succ] at b1 b2
            have p1 : 1 ≤ 2 ^ ds3.length := Nat.one_le_two_pow
            have dbl : ∀ n y : Nat, (n + 10) * (2 ^ ds3.length * 2) ≤ 4960 → y ≤ 2 * n + 10 → n ≤ 5000 ∧ (y + 10) * 2 ^ ds3.length ≤ 4960 := fun n y h1 h2 => by
              have e : (n + 10) * (2 ^ ds3.length * 2) = (2 * (n + 10)) * 2 ^ ds3.length := by rw [Nat.mul_comm (2 ^ ds3.length) 2, ← Nat.mul_assoc, Nat.mul_comm (n + 10) 2]
              have h3 : (y + 10) * 2 ^ ds3.length ≤ (2 * (n + 10)) * 2 ^ ds3.length := Nat.mul_le_mul_right _ (by omega)
              have h4 : (n + 10) * 1 ≤ (n + 10) * (2 ^ ds3.length * 2) := Nat.mul_le_mul_left _ (by omega)
              omega
            simp only [↓DL.wSeq, ↓DL.wSlT, ↓DL.wNo, ↓DL.wPart, ↓DL.dSlT, ↓DL.dCat, ↓DL.dListT, ↓DL.wFor, ↓DL.iR1, ↓DL.iR2, ↓DL.iTp, ↓DL.iLs, ↓DL.iNw, ↓DL.iLn, ↓DL.wNext, ↓DL.wIf, ↓DL.wRet, ↓DL.wRetN, ↓DL.wDrop, ↓DL.wAsg, ↓DL.gNm, ↓DL.wPar, ↓DL.wVar, ↓DL.wC, ↓DL.wOp, ↓DL.wUn, ↓DL.wTst, ↓DL.wChain, ↓DL.wAnd, ↓DL.wOr, ↓DL.wNot, ↓DL.wAndV, ↓DL.wOrV, ↓DL.wNotV, ↓DL.wIfE, ↓DL.wNil, ↓DL.wCons, ↓DL.wTup, ↓DL.wLst, ↓DL.wNew, ↓DL.wDer, ↓DL.wVL, ↓DL.wVLL, ↓DL.wALL, ↓DL.wCall, ↓DL.wIsa, ↓DL.wRaise, ↓DL.isB, ↓DL.dI0, ↓DL.dI, ↓DL.dU, ↓DL.dLen, ↓DL.dIx, ↓DL.gSubD, ↓DL.setD, ↓DL.wBM, ↓DL.isL, ↓DL.onL, ↓DL.dPopAt, ↓DL.dAppend, ↓DL.wIxV, ↓DL.wEqVL, ↓DL.wEqL, ↓DL.dEqS, ↓DL.dNeS, ↓DL.startD, List.map_cons, List.map_nil, List.length_cons, List.length_nil, List.cons_append, List.nil_append, List.replicate_succ, List.replicate_zero, List.getElem?_cons_zero, List.getElem?_cons_succ, List.set_cons_zero, List.set_cons_succ, Nat.reduceAdd, Nat.reduceSub, Nat.sub_self, ↓DL.kindD, ↓DL.dIsN, ↓DL.dNotN, ↓DL.isaB, String.reduceBEq, Bool.or_false, Bool.false_or, Bool.true_or, Bool.or_true, Bool.and_true, Bool.and_false, Bool.true_and, Bool.false_and, decide_true, decide_false, ↓DL.isNon, if_true, if_false, Bool.not_true, Bool.not_false, Bool.false_eq_true, reduceIte, true_and, and_true, ↓DL.dAddX, ↓DL.dMulX, ↓DL.dIxX, ↓DL.wSlX, ↓DL.dSlX, ↓DL.wSlL2, ↓DL.withL_rl, ↓DL.lsOf, ↓DL.wDerL, ↓DL.wFz, ↓DL.wFzR, ↓DL.frzD, ↓DL.wSide, ↓DL.wCatX, ↓DL.dEqA, ↓DL.scalEq, ↓DL.eqB, ↓DL.iLq, ↓DL.iSg, ↓DL.iEn, ↓DL.wM1, ↓DL.isStr, ↓DL.dJoin, ↓DL.dStrip, ↓DL.wSplit, ↓DL.dIntX, ↓DL.dInF, ↓DL.dInS, ↓DL.seqOf, ↓DL.wPar3, ↓DL.wFld, ↓DL.fldD, ↓DL.wSetF, ↓DL.setFD, ↓DL.wAugF, ↓DL.wMeth, ↓DL.recvD, ↓DL.wMake, ↓DL.fillP, ↓DL.wAsg2, ↓DL.gFldD, ↓DL.gStD, ↓DL.starV, ↓DL.gCs, ↓DL.gNl, ↓DL.gTp, Nat.add_zero, List.append_nil, List.zipWith_nil_left, List.zipWith_cons_cons, List.getD_cons_zero, ↓DL.wYes, reduceCtorEq, ↓DL.dEqX, ↓DL.dInD, DL.dataS_rl, DL.dataS_tup, DL.dataS_int, DL.dataS_str, DL.dataS_non, DL.dataD_nil, DL.dataD_ti, DL.dataD_li, ↓DL.isL2, ↓DL.dCountX, ↓DL.dIndexX, Option.isSome_some, ↓DL.dStrX, sp_lspoilt]
            refine ⟨b, text, rfl, eb, (dbl _ 0 b1 (by omega)).1, fun y1 l1 => ⟨b, logt, rfl, eb, (dbl _ 0 b2 (by omega)).1, fun y2 l2 => ?_⟩⟩
            (repeat refine And.intro (by first | exact True.intro | assumption | omega | (rw [sizeLine_eq]; omega) | rfl | (simp; omega) | (simp; rw [sizeLine_eq]; omega)) ?_)
            exact nx3 _ _ ⟨_, y1, y2, rfl, eb, eP, n1, by rw [List.length_cons] at d4; omega, (dbl _ _ b1 l1).2, (dbl _ _ b2 l2).2⟩
          all_goals
            simp only [rngD, List.length_map, List.length_range]
            have hr : r.toNat = 0 ∨ r.toNat = 1 ∨ r.toNat = 2 ∨ r.toNat = 3 ∨ r.toNat = 4 := by omega
            rcases hr with e | e | e | e | e <;> rw [e] <;> simp only [Nat.reducePow] <;> omega
        · rintro d2 ds2 σ S2 ⟨o4, o6, lines, rfl, eb, eP, n1, erw, l5, wd⟩ nx2
          refine ⟨trivial, ?_⟩
          rw [List.length_cons] at l5
          simp only [↓DL.wSeq, ↓DL.wSlT, ↓DL.wNo, ↓DL.wPart, ↓DL.dSlT, ↓DL.dCat, ↓DL.dListT, ↓DL.wFor, ↓DL.iR1, ↓DL.iR2, ↓DL.iTp, ↓DL.iLs, ↓DL.iNw, ↓DL.iLn, ↓DL.wNext, ↓DL.wIf, ↓DL.wRet, ↓DL.wRetN, ↓DL.wDrop, ↓DL.wAsg, ↓DL.gNm, ↓DL.wPar, ↓DL.wVar, ↓DL.wC, ↓DL.wOp, ↓DL.wUn, ↓DL.wTst, ↓DL.wChain, ↓DL.wAnd, ↓DL.wOr, ↓DL.wNot, ↓DL.wAndV, ↓DL.wOrV, ↓DL.wNotV, ↓DL.wIfE, ↓DL.wNil, ↓DL.wCons, ↓DL.wTup, ↓DL.wLst, ↓DL.wNew, ↓DL.wDer, ↓DL.wVL, ↓DL.wVLL, ↓DL.wALL, ↓DL.wCall, ↓DL.wIsa, ↓DL.wRaise, ↓DL.isB, ↓DL.dI0, ↓DL.dI, ↓DL.dU, ↓DL.dLen, ↓DL.dIx, ↓DL.gSubD, ↓DL.setD, ↓DL.wBM, ↓DL.isL, ↓DL.onL, ↓DL.dPopAt, ↓DL.dAppend, ↓DL.wIxV, ↓DL.wEqVL, ↓DL.wEqL, ↓DL.dEqS, ↓DL.dNeS, ↓DL.startD, List.map_cons, List.map_nil, List.length_cons, List.length_nil, List.cons_append, List.nil_append, List.replicate_succ, List.replicate_zero, List.getElem?_cons_zero, List.getElem?_cons_succ, List.set_cons_zero, List.set_cons_succ, Nat.reduceAdd, Nat.reduceSub, Nat.sub_self, ↓DL.kindD, ↓DL.dIsN, ↓DL.dNotN, ↓DL.isaB, String.reduceBEq, Bool.or_false, Bool.false_or, Bool.true_or, Bool.or_true, Bool.and_true, Bool.and_false, Bool.true_and, Bool.false_and, decide_true, decide_false, ↓DL.isNon, if_true, if_false, Bool.not_true, Bool.not_false, Bool.false_eq_true, reduceIte, true_and, and_true, ↓DL.dAddX, ↓DL.dMulX, ↓DL.dIxX, ↓DL.wSlX, ↓DL.dSlX, ↓DL.wSlL2, ↓DL.withL_rl, ↓DL.lsOf, ↓DL.wDerL, ↓DL.wFz, ↓DL.wFzR, ↓DL.frzD, ↓DL.wSide, ↓DL.wCatX, ↓DL.dEqA, ↓DL.scalEq, ↓DL.eqB, ↓DL.iLq, ↓DL.iSg, ↓DL.iEn, ↓DL.wM1, ↓DL.isStr, ↓DL.dJoin, ↓DL.dStrip, ↓DL.wSplit, ↓DL.dIntX, ↓DL.dInF, ↓DL.dInS, ↓DL.seqOf, ↓DL.wPar3, ↓DL.wFld, ↓DL.fldD, ↓DL.wSetF, ↓DL.setFD, ↓DL.wAugF, ↓DL.wMeth, ↓DL.recvD, ↓DL.wMake, ↓DL.fillP, ↓DL.wAsg2, ↓DL.gFldD, ↓DL.gStD, ↓DL.starV, ↓DL.gCs, ↓DL.gNl, ↓DL.gTp, Nat.add_zero, List.append_nil, List.zipWith_nil_left, List.zipWith_cons_cons, List.getD_cons_zero, ↓DL.wYes, reduceCtorEq, ↓DL.dEqX, ↓DL.dInD, DL.dataS_rl, DL.dataS_tup, DL.dataS_int, DL.dataS_str, DL.dataS_non, DL.dataD_nil, DL.dataD_ti, DL.dataD_li, ↓DL.isL2, ↓DL.dCountX, ↓DL.dIndexX, Option.isSome_some, ↓DL.dStrX, sp_take, erw, ↓wLc]
          refine ⟨eb, ⟨by decide, by decide⟩, fun m m0 m1 => ⟨⟨by omega, by omega⟩, ?_⟩⟩
          refine lcW_rel (fun _ y => ∃ a : Int, y = .str (nS a) ∧ a.natAbs < 1000) True.intro (by simp [rngD]; rw [sizeLine_eq]; omega) (fun x hx Kt Z k => ?_) fun ys hys hr => ?_
          · obtain ⟨i, hi, rfl⟩ := List.mem_map.mp hx
            simp only [↓DL.wSeq, ↓DL.wSlT, ↓DL.wNo, ↓DL.wPart, ↓DL.dSlT, ↓DL.dCat, ↓DL.dListT, ↓DL.wFor, ↓DL.iR1, ↓DL.iR2, ↓DL.iTp, ↓DL.iLs, ↓DL.iNw, ↓DL.iLn, ↓DL.wNext, ↓DL.wIf, ↓DL.wRet, ↓DL.wRetN, ↓DL.wDrop, ↓DL.wAsg, ↓DL.gNm, ↓DL.wPar, ↓DL.wVar, ↓DL.wC, ↓DL.wOp, ↓DL.wUn, ↓DL.wTst, ↓DL.wChain, ↓DL.wAnd, ↓DL.wOr, ↓DL.wNot, ↓DL.wAndV, ↓DL.wOrV, ↓DL.wNotV, ↓DL.wIfE, ↓DL.wNil, ↓DL.wCons, ↓DL.wTup, ↓DL.wLst, ↓DL.wNew, ↓DL.wDer, ↓DL.wVL, ↓DL.wVLL, ↓DL.wALL, ↓DL.wCall, ↓DL.wIsa, ↓DL.wRaise, ↓DL.isB, ↓DL.dI0, ↓DL.dI, ↓DL.dU, ↓DL.dLen, ↓DL.dIx, ↓DL.gSubD, ↓DL.setD, ↓DL.wBM, ↓DL.isL, ↓DL.onL, ↓DL.dPopAt, ↓DL.dAppend, ↓DL.wIxV, ↓DL.wEqVL, ↓DL.wEqL, ↓DL.dEqS, ↓DL.dNeS, ↓DL.startD, List.map_cons, List.map_nil, List.length_cons, List.length_nil, List.cons_append, List.nil_append, List.replicate_succ, List.replicate_zero, List.getElem?_cons_zero, List.getElem?_cons_succ, List.set_cons_zero, List.set_cons_succ, Nat.reduceAdd, Nat.reduceSub, Nat.sub_self, ↓DL.kindD, ↓DL.dIsN, ↓DL.dNotN, ↓DL.isaB, String.reduceBEq, Bool.or_false, Bool.false_or, Bool.true_or, Bool.or_true, Bool.and_true, Bool.and_false, Bool.true_and, Bool.false_and, decide_true, decide_false, ↓DL.isNon, if_true, if_false, Bool.not_true, Bool.not_false, Bool.false_eq_true, reduceIte, true_and, and_true, ↓DL.dAddX, ↓DL.dMulX, ↓DL.dIxX, ↓DL.wSlX, ↓DL.dSlX, ↓DL.wSlL2, ↓DL.withL_rl, ↓DL.lsOf, ↓DL.wDerL, ↓DL.wFz, ↓DL.wFzR, ↓DL.frzD, ↓DL.wSide, ↓DL.wCatX, ↓DL.dEqA, ↓DL.scalEq, ↓DL.eqB, ↓DL.iLq, ↓DL.iSg, ↓DL.iEn, ↓DL.wM1, ↓DL.isStr, ↓DL.dJoin, ↓DL.dStrip, ↓DL.wSplit, ↓DL.dIntX, ↓DL.dInF, ↓DL.dInS, ↓DL.seqOf, ↓DL.wPar3, ↓DL.wFld, ↓DL.fldD, ↓DL.wSetF, ↓DL.setFD, ↓DL.wAugF, ↓DL.wMeth, ↓DL.recvD, ↓DL.wMake, ↓DL.fillP, ↓DL.wAsg2, ↓DL.gFldD, ↓DL.gStD, ↓DL.starV, ↓DL.gCs, ↓DL.gNl, ↓DL.gTp, Nat.add_zero, List.append_nil, List.zipWith_nil_left, List.zipWith_cons_cons, List.getD_cons_zero, ↓DL.wYes, reduceCtorEq, ↓DL.dEqX, ↓DL.dInD, DL.dataS_rl, DL.dataS_tup, DL.dataS_int, DL.dataS_str, DL.dataS_non, DL.dataD_nil, DL.dataD_ti, DL.dataD_li, ↓DL.isL2, ↓DL.dCountX, ↓DL.dIndexX, Option.isSome_some, ↓DL.dStrX, wipeD, sp_take]
            exact ⟨eb, ⟨by decide, by decide⟩, fun v v0 v1 => ⟨lg19 (by omega) (by omega), k _ ⟨v - 999, rfl, by omega⟩⟩⟩
          have hl : ys.length = (7 + m).toNat := by simpa [rngD] using hys
          obtain ⟨as, rfl, ha⟩ := map_rel (f := fun a : Int => D.str (nS a)) hys hr
          rw [List.length_map] at hl
          clear hr hys
          rw [List.nil_append, em, DL.strs_map]
          have ws := Wd_sum (as.map nS)
          have wl := words_len as ha
          have l1 := line_len as ha
          dsimp only
          rw [erw]
          dsimp only
          rw [show (" " : Str).length = 1 from rfl, show ("put " : Str).length = 4 from rfl]
          have la : ("put " ++ Txt.join " " (as.map nS) : Str).length = 4 + (Txt.join " " (as.map nS)).length := by
            show (("put " : Str).cps ++ (Txt.join " " (as.map nS)).cps).size = _
            rw [Array.size_append]
            rfl
          refine ⟨by omega, by rw [sizeLine_eq]; omega, by rw [List.length_map, sizeLine_eq]; omega, ?_⟩
          refine nx2 _ _ ⟨_, _, lines ++ ["put " ++ Txt.join " " (as.map nS)], rfl, by rw [sup_ne brw]; exact eb, by rw [sup_ne prw]; exact eP, n1.sup ?_, by rw [sup_same, List.map_append]; rfl, by rw [List.length_append, List.length_singleton]; omega, ?_⟩
          · have := noS_strs (lines ++ ["put " ++ Txt.join " " (as.map nS)])
            rwa [List.map_append] at this
          · rw [Wd_app, List.length_append, List.length_singleton]
            unfold Wd at wd ⊢
            simp only [List.map_cons, List.map_nil, List.sum_cons, List.sum_nil]
            omega
    · exact h.elim
--CUT
theorem law_start {K : PySem.W.Frag} {H : Hp} {mg : Str → Option Value} {PT a : Addr} {ns : List Int} (hl : ns.length ≤ 63) (hT : H PT = some (.tbl #[])) (hS : SqL K H a (ns.map V.int)) : upSp K mg (sp_law PT) [.ref a] H (fun v _ => v = .bl true) (fun _ _ _ => False) :=
  ints_start hT hS fun d S hi hP nS => ⟨ns, hi, hl, hP, nS, fun _ => rfl⟩
structure Defs (K : PySem.W.Frag) (mg : Str → Option Value) : Prop where
  d_is_number : Def K mg "is_number" s_is_number ["part", "low", "high"]
  d_is_token : Def K mg "is_token" s_is_token ["token", "many"]
  d_need_token : Def K mg "need_token" s_need_token ["token", "many"]
  d_sized : Def K mg "sized" s_sized ["token"]
  d_number_of : Def K mg "number_of" s_number_of ["word"]
  d_numbers_of : Def K mg "numbers_of" s_numbers_of ["words", "row"]
  d_read : Def K mg "read" s_read ["text"]
  d_read_log : Def K mg "read_log" s_read_log ["text"]
  d__law_begun : Def K mg "_law_begun" s__law_begun ["_law_script"]
  d__law_take : Def K mg "_law_take" s__law_take ["_law_box", "_law_many"]
  d__law_alike : Def K mg "_law_alike" s__law_alike ["_law_found", "_law_due"]
  d__law_told : Def K mg "_law_told" s__law_told ["_law_work"]
  d__law_spoilt : Def K mg "_law_spoilt" s__law_spoilt ["_law_box", "_law_text"]
  d__law_numbers : Def K mg "_law_numbers" s__law_numbers ["_law_words"]
  d__law_token : Def K mg "_law_token" s__law_token ["_law_text"]
  d__law_log : Def K mg "_law_log" s__law_log ["_law_text"]
  x_BadText : DefX K mg "BadText" "BadText.__init__" ["row"] s_BadText___init__
  binit : InitF K mg "PortError"
theorem law_mk {f c PT : Addr} {dV kV doc pm cdv ct oc : Value} {an od : Option Addr} {osl : Array (Option Value)} (hc : cdv = .ref c) (TB : LamX.TabB base mg c PT)
    (lk : K.lookup f = some ⟨oc, od, .func (PySem.W.fnOf "law" "law" (defArgs s_law) (defBody s_law) (defScope s_law) dV kV doc pm an cdv ct), osl⟩) (hcd : PySem.W.codeIn K cdv "law" = true) (T : Txt K mg) (D : Defs K mg) (ER : ErrK K mg ["BadText", "BadToken"]) :
    FnOk P w K mg base (L2.CX P w) 17 f (PySem.W.fnOf "law" "law" (defArgs s_law) (defBody s_law) (defScope s_law) dV kV doc pm an cdv ct) ["_law_script"] (upSp K mg (sp_law PT)) := by
  have c__law_take : Cal P w K mg base "_law_take" 1 ["_law_box", "_law_many"] sp_take := ok__law_take D.d__law_take T
  have c__law_begun : Cal P w K mg base "_law_begun" 1 ["_law_script"] sp_begun := ok__law_begun D.d__law_begun T
  have c__law_alike : Cal P w K mg base "_law_alike" 8 ["_law_found", "_law_due"] (sp_alike 8) := ok__law_alike D.d__law_alike T 8
  have c_is_number : Cal P w K mg base "is_number" 1 ["part", "low", "high"] sp_is_number := ok_is_number D.d_is_number T
  have c_is_token : Cal P w K mg base "is_token" 2 ["token", "many"] sp_is_token := ok_is_token D.d_is_token T c_is_number
  have c_need_token : Cal P w K mg base "need_token" 3 ["token", "many"] sp_need_token := ok_need_token D.d_need_token T c_is_token
  have c_sized : Cal P w K mg base "sized" 1 ["token"] sp_sized := ok_sized D.d_sized T
  have c_number_of : Cal P w K mg base "number_of" 1 ["word"] sp_number_of := ok_number_of D.d_number_of T
  have c_BadText : ExMk P w K mg base "BadText" 1 ["row"] := ok_BadText D.x_BadText D.binit
  have c_numbers_of : Cal P w K mg base "numbers_of" 3 ["words", "row"] sp_numbers_of := ok_numbers_of D.d_numbers_of T c_BadText c_number_of
  have c_read : Cal P w K mg base "read" 4 ["text"] sp_read := ok_read D.d_read T c_need_token c_sized c_numbers_of
  have c_read_log : Cal P w K mg base "read_log" 4 ["text"] sp_read_log := ok_read_log D.d_read_log T c_numbers_of c_BadText
  have c__law_numbers : Cal P w K mg base "_law_numbers" 1 ["_law_words"] sp_lnumbers := ok__law_numbers D.d__law_numbers T
  have c__law_token : Cal P w K mg base "_law_token" 2 ["_law_text"] sp_ltoken := ok__law_token D.d__law_token T c__law_numbers
  have c__law_log : Cal P w K mg base "_law_log" 2 ["_law_text"] sp_llog := ok__law_log D.d__law_log T c__law_numbers
  have c__law_spoilt : Cal P w K mg base "_law_spoilt" 2 ["_law_box", "_law_text"] sp_lspoilt := ok__law_spoilt D.d__law_spoilt T c__law_take
  have c__law_told : Cal P w K mg base "_law_told" 10 ["_law_work"] (sp_told P w K mg base 8 ["BadText", "BadToken"]) := ok__law_told ["BadText", "BadToken"] (by decide +kernel) 8 D.d__law_told T ER
  exact ok_law hc TB lk hcd T c__law_alike c__law_log c__law_told c__law_token c__law_take c__law_spoilt c__law_begun c_read c_read_log
theorem all_mk {l : PySem.W.OpenLaw} {w : World} {K : PySem.W.Frag} {mg : Str → Option Value} {fa : Addr} {h : Heap} {f0 : Addr} {oc0 kV0 dc0 pm0 cd0 ct0 : Value} {od0 an0 : Option Addr} {sl0 : Array (Option Value)} {f1 : Addr} {oc1 kV1 dc1 pm1 cd1 ct1 : Value} {od1 an1 : Option Addr} {sl1 : Array (Option Value)} {f2 : Addr} {oc2 kV2 dc2 pm2 cd2 ct2 : Value} {od2 an2 : Option Addr} {sl2 : Array (Option Value)} {f3 : Addr} {oc3 kV3 dc3 pm3 cd3 ct3 : Value} {od3 an3 : Option Addr} {sl3 : Array (Option Value)} {f4 : Addr} {oc4 kV4 dc4 pm4 cd4 ct4 : Value} {od4 an4 : Option Addr} {sl4 : Array (Option Value)} {f5 : Addr} {oc5 kV5 dc5 pm5 cd5 ct5 : Value} {od5 an5 : Option Addr} {sl5 : Array (Option Value)} {f6 : Addr} {oc6 kV6 dc6 pm6 cd6 ct6 : Value} {od6 an6 : Option Addr} {sl6 : Array (Option Value)} {f7 : Addr} {oc7 kV7 dc7 pm7 cd7 ct7 : Value} {od7 an7 : Option Addr} {sl7 : Array (Option Value)} {f8 : Addr} {oc8 kV8 dc8 pm8 cd8 ct8 : Value} {od8 an8 : Option Addr} {sl8 : Array (Option Value)} {f9 : Addr} {oc9 kV9 dc9 pm9 cd9 ct9 : Value} {od9 an9 : Option Addr} {sl9 : Array (Option Value)} {f10 : Addr} {oc10 kV10 dc10 pm10 cd10 ct10 : Value} {od10 an10 : Option Addr} {sl10 : Array (Option Value)} {f11 : Addr} {oc11 kV11 dc11 pm11 cd11 ct11 : Value} {od11 an11 : Option Addr} {sl11 : Array (Option Value)} {f12 : Addr} {oc12 kV12 dc12 pm12 cd12 ct12 : Value} {od12 an12 : Option Addr} {sl12 : Array (Option Value)} {f13 : Addr} {oc13 kV13 dc13 pm13 cd13 ct13 : Value} {od13 an13 : Option Addr} {sl13 : Array (Option Value)} {f14 : Addr} {oc14 kV14 dc14 pm14 cd14 ct14 : Value} {od14 an14 : Option Addr} {sl14 : Array (Option Value)} {f15 : Addr} {oc15 kV15 dc15 pm15 cd15 ct15 : Value} {od15 an15 : Option Addr} {sl15 : Array (Option Value)} {fL cc PT : Addr} {ocL kVL dcL pmL ctL : Value} {odL anL ddc : Option Addr} {slL slc : Array (Option Value)} {vsc : Array Value} {file : Str} {tf tg tt : Tok} {flags text : Int} {inF : Bool} {t_FIGURES : Tok} {t_LEAST_SITES : Tok} {t_LINE : Tok} {t_MOST_PUTS : Tok} {t_MOST_SITES : Tok} {t_PUT : Tok} {CP : Addr} {E_BadCount : Addr} {E_BadKey : Addr} {E_BadLogs : Addr} {E_BadNow : Addr} {E_BadRules : Addr} {E_BadSite : Addr} {E_BadText : Addr} {E_BadToken : Addr} {E_BadWants : Addr} {E_BadWorth : Addr} {E_NotYet : Addr} {E_Stale : Addr} {fI_BadText N_BadText : Addr} {nm_BadText qn_BadText : Str} {bs_BadText bm_BadText sub_BadText : List Value} {sn_BadText : List Str} {ab_BadText : Bool} {col_BadText : Option Bool} {dd_BadText : Option Addr} {k0_BadText k1_BadText k2_BadText k3_BadText k5_BadText : Option Value} {oc_BadText kV_BadText dc_BadText pm_BadText cd_BadText ct_BadText : Value} {od_BadText an_BadText : Option Addr} {sl_BadText : Array (Option Value)} (X : K.In h) (G : h.Ns mainGlobals mg) (hfa : mg "law" = some (.ref fa)) (OT : h.get? PT = some { cls := .none, data := .fields #[] })
    (a0 : PySem.W.nsIn K mainGlobals "is_number" = some (some (.ref f0)))
    (l0 : K.lookup f0 = some ⟨oc0, od0, .func (PySem.W.fnOf "is_number" "is_number" (defArgs s_is_number) (defBody s_is_number) (defScope s_is_number) .none kV0 dc0 pm0 an0 cd0 ct0), sl0⟩)
    (c0 : PySem.W.codeIn K cd0 "is_number" = true)
    (k0 : PySem.W.keepIn K (.ref f0) = true)
    (a1 : PySem.W.nsIn K mainGlobals "is_token" = some (some (.ref f1)))
    (l1 : K.lookup f1 = some ⟨oc1, od1, .func (PySem.W.fnOf "is_token" "is_token" (defArgs s_is_token) (defBody s_is_token) (defScope s_is_token) .none kV1 dc1 pm1 an1 cd1 ct1), sl1⟩)
    (c1 : PySem.W.codeIn K cd1 "is_token" = true)
    (k1 : PySem.W.keepIn K (.ref f1) = true)
    (a2 : PySem.W.nsIn K mainGlobals "need_token" = some (some (.ref f2)))
    (l2 : K.lookup f2 = some ⟨oc2, od2, .func (PySem.W.fnOf "need_token" "need_token" (defArgs s_need_token) (defBody s_need_token) (defScope s_need_token) .none kV2 dc2 pm2 an2 cd2 ct2), sl2⟩)
    (c2 : PySem.W.codeIn K cd2 "need_token" = true)
    (k2 : PySem.W.keepIn K (.ref f2) = true)
    (a3 : PySem.W.nsIn K mainGlobals "sized" = some (some (.ref f3)))
    (l3 : K.lookup f3 = some ⟨oc3, od3, .func (PySem.W.fnOf "sized" "sized" (defArgs s_sized) (defBody s_sized) (defScope s_sized) .none kV3 dc3 pm3 an3 cd3 ct3), sl3⟩)
    (c3 : PySem.W.codeIn K cd3 "sized" = true)
    (k3 : PySem.W.keepIn K (.ref f3) = true)
    (a4 : PySem.W.nsIn K mainGlobals "number_of" = some (some (.ref f4)))
    (l4 : K.lookup f4 = some ⟨oc4, od4, .func (PySem.W.fnOf "number_of" "number_of" (defArgs s_number_of) (defBody s_number_of) (defScope s_number_of) .none kV4 dc4 pm4 an4 cd4 ct4), sl4⟩)
    (c4 : PySem.W.codeIn K cd4 "number_of" = true)
    (k4 : PySem.W.keepIn K (.ref f4) = true)
    (a5 : PySem.W.nsIn K mainGlobals "numbers_of" = some (some (.ref f5)))
    (l5 : K.lookup f5 = some ⟨oc5, od5, .func (PySem.W.fnOf "numbers_of" "numbers_of" (defArgs s_numbers_of) (defBody s_numbers_of) (defScope s_numbers_of) .none kV5 dc5 pm5 an5 cd5 ct5), sl5⟩)
    (c5 : PySem.W.codeIn K cd5 "numbers_of" = true)
    (k5 : PySem.W.keepIn K (.ref f5) = true)
    (a6 : PySem.W.nsIn K mainGlobals "read" = some (some (.ref f6)))
    (l6 : K.lookup f6 = some ⟨oc6, od6, .func (PySem.W.fnOf "read" "read" (defArgs s_read) (defBody s_read) (defScope s_read) .none kV6 dc6 pm6 an6 cd6 ct6), sl6⟩)
    (c6 : PySem.W.codeIn K cd6 "read" = true)
    (k6 : PySem.W.keepIn K (.ref f6) = true)
    (a7 : PySem.W.nsIn K mainGlobals "read_log" = some (some (.ref f7)))
    (l7 : K.lookup f7 = some ⟨oc7, od7, .func (PySem.W.fnOf "read_log" "read_log" (defArgs s_read_log) (defBody s_read_log) (defScope s_read_log) .none kV7 dc7 pm7 an7 cd7 ct7), sl7⟩)
    (c7 : PySem.W.codeIn K cd7 "read_log" = true)
    (k7 : PySem.W.keepIn K (.ref f7) = true)
    (a8 : PySem.W.nsIn K mainGlobals "_law_begun" = some (some (.ref f8)))
    (l8 : K.lookup f8 = some ⟨oc8, od8, .func (PySem.W.fnOf "_law_begun" "_law_begun" (defArgs s__law_begun) (defBody s__law_begun) (defScope s__law_begun) .none kV8 dc8 pm8 an8 cd8 ct8), sl8⟩)
    (c8 : PySem.W.codeIn K cd8 "_law_begun" = true)
    (k8 : PySem.W.keepIn K (.ref f8) = true)
    (a9 : PySem.W.nsIn K mainGlobals "_law_take" = some (some (.ref f9)))
    (l9 : K.lookup f9 = some ⟨oc9, od9, .func (PySem.W.fnOf "_law_take" "_law_take" (defArgs s__law_take) (defBody s__law_take) (defScope s__law_take) .none kV9 dc9 pm9 an9 cd9 ct9), sl9⟩)
    (c9 : PySem.W.codeIn K cd9 "_law_take" = true)
    (k9 : PySem.W.keepIn K (.ref f9) = true)
    (a10 : PySem.W.nsIn K mainGlobals "_law_alike" = some (some (.ref f10)))
    (l10 : K.lookup f10 = some ⟨oc10, od10, .func (PySem.W.fnOf "_law_alike" "_law_alike" (defArgs s__law_alike) (defBody s__law_alike) (defScope s__law_alike) .none kV10 dc10 pm10 an10 cd10 ct10), sl10⟩)
    (c10 : PySem.W.codeIn K cd10 "_law_alike" = true)
    (k10 : PySem.W.keepIn K (.ref f10) = true)
    (a11 : PySem.W.nsIn K mainGlobals "_law_told" = some (some (.ref f11)))
    (l11 : K.lookup f11 = some ⟨oc11, od11, .func (PySem.W.fnOf "_law_told" "_law_told" (defArgs s__law_told) (defBody s__law_told) (defScope s__law_told) .none kV11 dc11 pm11 an11 cd11 ct11), sl11⟩)
    (c11 : PySem.W.codeIn K cd11 "_law_told" = true)
    (k11 : PySem.W.keepIn K (.ref f11) = true)
    (a12 : PySem.W.nsIn K mainGlobals "_law_spoilt" = some (some (.ref f12)))
    (l12 : K.lookup f12 = some ⟨oc12, od12, .func (PySem.W.fnOf "_law_spoilt" "_law_spoilt" (defArgs s__law_spoilt) (defBody s__law_spoilt) (defScope s__law_spoilt) .none kV12 dc12 pm12 an12 cd12 ct12), sl12⟩)
    (c12 : PySem.W.codeIn K cd12 "_law_spoilt" = true)
    (k12 : PySem.W.keepIn K (.ref f12) = true)
    (a13 : PySem.W.nsIn K mainGlobals "_law_numbers" = some (some (.ref f13)))
    (l13 : K.lookup f13 = some ⟨oc13, od13, .func (PySem.W.fnOf "_law_numbers" "_law_numbers" (defArgs s__law_numbers) (defBody s__law_numbers) (defScope s__law_numbers) .none kV13 dc13 pm13 an13 cd13 ct13), sl13⟩)
    (c13 : PySem.W.codeIn K cd13 "_law_numbers" = true)
    (k13 : PySem.W.keepIn K (.ref f13) = true)
    (a14 : PySem.W.nsIn K mainGlobals "_law_token" = some (some (.ref f14)))
    (l14 : K.lookup f14 = some ⟨oc14, od14, .func (PySem.W.fnOf "_law_token" "_law_token" (defArgs s__law_token) (defBody s__law_token) (defScope s__law_token) .none kV14 dc14 pm14 an14 cd14 ct14), sl14⟩)
    (c14 : PySem.W.codeIn K cd14 "_law_token" = true)
    (k14 : PySem.W.keepIn K (.ref f14) = true)
    (a15 : PySem.W.nsIn K mainGlobals "_law_log" = some (some (.ref f15)))
    (l15 : K.lookup f15 = some ⟨oc15, od15, .func (PySem.W.fnOf "_law_log" "_law_log" (defArgs s__law_log) (defBody s__law_log) (defScope s__law_log) .none kV15 dc15 pm15 an15 cd15 ct15), sl15⟩)
    (c15 : PySem.W.codeIn K cd15 "_law_log" = true)
    (k15 : PySem.W.keepIn K (.ref f15) = true)
    (aL : PySem.W.nsIn K mainGlobals "law" = some (some (.ref fL)))
    (lL : K.lookup fL = some ⟨ocL, odL, .func (PySem.W.fnOf "law" "law" (defArgs s_law) (defBody s_law) (defScope s_law) .none kVL dcL pmL anL (.ref cc) ctL), slL⟩)
    (cL : PySem.W.codeIn K (.ref cc) "law" = true)
    (lc : K.lookup cc = some ⟨.type "code", ddc, .fields vsc, slc⟩)
    (v11 : vsc[11]? = some (.ref PT))
    (w11 : vsc.getD 11 .none = .ref PT)
    (w18 : vsc.getD 18 .none = .str file tf)
    (w7 : vsc.getD 7 .none = .int flags tg)
    (w9 : vsc.getD 9 .none = .bool inF)
    (w10 : vsc.getD 10 .none = .int text tt)
    (cne : cc ≠ PT)
    (nP : K.lookup PT = none)
    (b_all : PySem.W.nsIn K mainGlobals "all" = some none)
    (b_any : PySem.W.nsIn K mainGlobals "any" = some none)
    (b_bool : PySem.W.nsIn K mainGlobals "bool" = some none)
    (b_enumerate : PySem.W.nsIn K mainGlobals "enumerate" = some none)
    (b_int : PySem.W.nsIn K mainGlobals "int" = some none)
    (b_isinstance : PySem.W.nsIn K mainGlobals "isinstance" = some none)
    (b_len : PySem.W.nsIn K mainGlobals "len" = some none)
    (b_list : PySem.W.nsIn K mainGlobals "list" = some none)
    (b_max : PySem.W.nsIn K mainGlobals "max" = some none)
    (b_min : PySem.W.nsIn K mainGlobals "min" = some none)
    (b_range : PySem.W.nsIn K mainGlobals "range" = some none)
    (b_str : PySem.W.nsIn K mainGlobals "str" = some none)
    (b_tuple : PySem.W.nsIn K mainGlobals "tuple" = some none)
    (g_FIGURES : PySem.W.nsIn K mainGlobals "FIGURES" = some (some (.str "0123456789" t_FIGURES)))
    (g_LEAST_SITES : PySem.W.nsIn K mainGlobals "LEAST_SITES" = some (some (.int 2 t_LEAST_SITES)))
    (g_LINE : PySem.W.nsIn K mainGlobals "LINE" = some (some (.str "\n" t_LINE)))
    (g_MOST_PUTS : PySem.W.nsIn K mainGlobals "MOST_PUTS" = some (some (.int 999 t_MOST_PUTS)))
    (g_MOST_SITES : PySem.W.nsIn K mainGlobals "MOST_SITES" = some (some (.int 5 t_MOST_SITES)))
    (g_PUT : PySem.W.nsIn K mainGlobals "PUT" = some (some (.str "put" t_PUT)))
    (ePort : PySem.W.nsIn K mainGlobals "PortError" = some (some (.ref CP)))
    (zVal : PySem.W.nsIn K mainGlobals "ValueError" = some none)
    (hn : PySem.W.specialIn K (.builtin "object.__class__") "__get__" = some (some (.builtin "getset_descriptor.__get__")))
    (ht : PySem.W.takesIn K (.builtin "object.__class__") = some true)
    (e_BadCount : PySem.W.nsIn K mainGlobals "BadCount" = some (some (.ref E_BadCount)))
    (e_BadKey : PySem.W.nsIn K mainGlobals "BadKey" = some (some (.ref E_BadKey)))
    (e_BadLogs : PySem.W.nsIn K mainGlobals "BadLogs" = some (some (.ref E_BadLogs)))
    (e_BadNow : PySem.W.nsIn K mainGlobals "BadNow" = some (some (.ref E_BadNow)))
    (e_BadRules : PySem.W.nsIn K mainGlobals "BadRules" = some (some (.ref E_BadRules)))
    (e_BadSite : PySem.W.nsIn K mainGlobals "BadSite" = some (some (.ref E_BadSite)))
    (e_BadText : PySem.W.nsIn K mainGlobals "BadText" = some (some (.ref E_BadText)))
    (e_BadToken : PySem.W.nsIn K mainGlobals "BadToken" = some (some (.ref E_BadToken)))
    (e_BadWants : PySem.W.nsIn K mainGlobals "BadWants" = some (some (.ref E_BadWants)))
    (e_BadWorth : PySem.W.nsIn K mainGlobals "BadWorth" = some (some (.ref E_BadWorth)))
    (e_NotYet : PySem.W.nsIn K mainGlobals "NotYet" = some (some (.ref E_NotYet)))
    (e_Stale : PySem.W.nsIn K mainGlobals "Stale" = some (some (.ref E_Stale)))
    (sb_BadText : PySem.W.subIn K (.ref E_BadText) (.type "BaseException") = some true)
    (ty_BadText : PySem.W.typeIn K (.ref E_BadText) = some (.type "type"))
    (x_BadToken : PySem.W.excIn K E_BadToken [.type "ValueError", .type "Exception", .type "BaseException", .type "object"] "ValueError.__new__" = true)
    (kp_BadToken : PySem.W.keepIn K (.ref E_BadToken) = true)
    (sb_BadToken : PySem.W.subIn K (.ref E_BadToken) (.type "BaseException") = some true)
    (ty_BadToken : PySem.W.typeIn K (.ref E_BadToken) = some (.type "type"))
    (pRd : PySem.W.readsIn K CP (.type "type") = true)
    (pGa : PySem.W.specialIn K (.ref CP) "__getattribute__" = some (some (.builtin "type.__getattribute__")))
    (pIn : PySem.W.findCls K (.ref CP) (.type "type") "__init__" = some (.val (.builtin "ValueError.__init__")))
    (kp_BadText : PySem.W.keepIn K (.ref E_BadText) = true)
    (lX_BadText : K.lookup E_BadText = some (excClassObj nm_BadText qn_BadText E_BadText N_BadText bs_BadText bm_BadText true sn_BadText sub_BadText ab_BadText col_BadText dd_BadText k0_BadText k1_BadText k2_BadText k3_BadText k5_BadText "ValueError.__new__"))
    (rv_BadText : PySem.HandSPX.refsVE bm_BadText = true)
    (sa_BadText : PySem.W.findIn K (.ref E_BadText) "__setattr__" = some (some (.builtin "object.__setattr__")))
    (iC_BadText : PySem.W.findIn K (.ref E_BadText) "__init__" = some (some (.ref fI_BadText)))
    (tI_BadText : PySem.W.typeIn K (.ref fI_BadText) = some (.type "function"))
    (nfrow_BadText : PySem.W.findIn K (.ref E_BadText) "row" = some none)
    (lI_BadText : K.lookup fI_BadText = some ⟨oc_BadText, od_BadText, .func (PySem.W.fnOf "__init__" "BadText.__init__" (defArgs s_BadText___init__) (defBody s_BadText___init__) (defScope s_BadText___init__) .none kV_BadText dc_BadText pm_BadText an_BadText cd_BadText ct_BadText), sl_BadText⟩)
    (cI_BadText : PySem.W.codeIn K cd_BadText "BadText.__init__" = true)
    (kI_BadText : PySem.W.keepIn K (.ref fI_BadText) = true)
    (hg_BadText : PySem.W.findIn K (.ref E_BadText) "__getattribute__" = some (some (.builtin "BaseException.__getattribute__")))
    (hk_BadText : PySem.W.findIn K (.ref E_BadText) "__getattr__" = some none)
    (ha_BadText : PySem.W.findIn K (.ref E_BadText) "__class__" = some (some (.builtin "object.__class__")))
    (hm_BadText : PySem.W.mroIn K E_BadText (.type "object") = some true)
    (hd_BadText : PySem.W.hasDictIn K E_BadText = true)
    (nsite_BadText : PySem.W.findIn K (.ref E_BadText) "site" = some none)
    (nrow_BadText : PySem.W.findIn K (.ref E_BadText) "row" = some none)
    (nlacks_BadText : PySem.W.findIn K (.ref E_BadText) "lacks" = some none)
    (nby_BadText : PySem.W.findIn K (.ref E_BadText) "by" = some none)
    (qBadCount_BadText : PySem.W.kitOne K (.ref E_BadText) (.ref E_BadCount) = some false)
    (qBadKey_BadText : PySem.W.kitOne K (.ref E_BadText) (.ref E_BadKey) = some false)
    (qBadLogs_BadText : PySem.W.kitOne K (.ref E_BadText) (.ref E_BadLogs) = some false)
    (qBadNow_BadText : PySem.W.kitOne K (.ref E_BadText) (.ref E_BadNow) = some false)
    (qBadRules_BadText : PySem.W.kitOne K (.ref E_BadText) (.ref E_BadRules) = some false)
    (qBadSite_BadText : PySem.W.kitOne K (.ref E_BadText) (.ref E_BadSite) = some false)
    (qBadText_BadText : PySem.W.kitOne K (.ref E_BadText) (.ref E_BadText) = some true)
    (qBadToken_BadText : PySem.W.kitOne K (.ref E_BadText) (.ref E_BadToken) = some false)
    (qBadWants_BadText : PySem.W.kitOne K (.ref E_BadText) (.ref E_BadWants) = some false)
    (qBadWorth_BadText : PySem.W.kitOne K (.ref E_BadText) (.ref E_BadWorth) = some false)
    (qNotYet_BadText : PySem.W.kitOne K (.ref E_BadText) (.ref E_NotYet) = some false)
    (qStale_BadText : PySem.W.kitOne K (.ref E_BadText) (.ref E_Stale) = some false)
    (qV_BadText : PySem.W.kitOne K (.ref E_BadText) (.type "ValueError") = some true)
    (qP_BadText : PySem.W.exmOne K (.ref E_BadText) (.ref CP) = some true)
    (hg_BadToken : PySem.W.findIn K (.ref E_BadToken) "__getattribute__" = some (some (.builtin "BaseException.__getattribute__")))
    (hk_BadToken : PySem.W.findIn K (.ref E_BadToken) "__getattr__" = some none)
    (ha_BadToken : PySem.W.findIn K (.ref E_BadToken) "__class__" = some (some (.builtin "object.__class__")))
    (hm_BadToken : PySem.W.mroIn K E_BadToken (.type "object") = some true)
    (hd_BadToken : PySem.W.hasDictIn K E_BadToken = true)
    (nsite_BadToken : PySem.W.findIn K (.ref E_BadToken) "site" = some none)
    (nrow_BadToken : PySem.W.findIn K (.ref E_BadToken) "row" = some none)
    (nlacks_BadToken : PySem.W.findIn K (.ref E_BadToken) "lacks" = some none)
    (nby_BadToken : PySem.W.findIn K (.ref E_BadToken) "by" = some none)
    (qBadCount_BadToken : PySem.W.kitOne K (.ref E_BadToken) (.ref E_BadCount) = some false)
    (qBadKey_BadToken : PySem.W.kitOne K (.ref E_BadToken) (.ref E_BadKey) = some false)
    (qBadLogs_BadToken : PySem.W.kitOne K (.ref E_BadToken) (.ref E_BadLogs) = some false)
    (qBadNow_BadToken : PySem.W.kitOne K (.ref E_BadToken) (.ref E_BadNow) = some false)
    (qBadRules_BadToken : PySem.W.kitOne K (.ref E_BadToken) (.ref E_BadRules) = some false)
    (qBadSite_BadToken : PySem.W.kitOne K (.ref E_BadToken) (.ref E_BadSite) = some false)
    (qBadText_BadToken : PySem.W.kitOne K (.ref E_BadToken) (.ref E_BadText) = some false)
    (qBadToken_BadToken : PySem.W.kitOne K (.ref E_BadToken) (.ref E_BadToken) = some true)
    (qBadWants_BadToken : PySem.W.kitOne K (.ref E_BadToken) (.ref E_BadWants) = some false)
    (qBadWorth_BadToken : PySem.W.kitOne K (.ref E_BadToken) (.ref E_BadWorth) = some false)
    (qNotYet_BadToken : PySem.W.kitOne K (.ref E_BadToken) (.ref E_NotYet) = some false)
    (qStale_BadToken : PySem.W.kitOne K (.ref E_BadToken) (.ref E_Stale) = some false)
    (qV_BadToken : PySem.W.kitOne K (.ref E_BadToken) (.type "ValueError") = some true)
    (qP_BadToken : PySem.W.exmOne K (.ref E_BadToken) (.ref CP) = some true) :
    LamX.LawAtS l w K (L2.CX l.prog w) 17 63 "_law_script" mg fa h := by
  have eL := hfa.symm.trans (PySem.W.mg_of X G aL)
  cases eL
  have D : Defs K mg := {
    d_is_number := ⟨_, _, fun_mk (st := s_is_number) l0 c0 k0, PySem.W.mg_of X G a0, (fun_mk (st := s_is_number) l0 c0 k0).binds fun _ _ _ _ _ _ us hl => match us, hl with | [_, _, _], _ => rfl⟩
    d_is_token := ⟨_, _, fun_mk (st := s_is_token) l1 c1 k1, PySem.W.mg_of X G a1, (fun_mk (st := s_is_token) l1 c1 k1).binds fun _ _ _ _ _ _ us hl => match us, hl with | [_, _], _ => rfl⟩
    d_need_token := ⟨_, _, fun_mk (st := s_need_token) l2 c2 k2, PySem.W.mg_of X G a2, (fun_mk (st := s_need_token) l2 c2 k2).binds fun _ _ _ _ _ _ us hl => match us, hl with | [_, _], _ => rfl⟩
    d_sized := ⟨_, _, fun_mk (st := s_sized) l3 c3 k3, PySem.W.mg_of X G a3, (fun_mk (st := s_sized) l3 c3 k3).binds fun _ _ _ _ _ _ us hl => match us, hl with | [_], _ => rfl⟩
    d_number_of := ⟨_, _, fun_mk (st := s_number_of) l4 c4 k4, PySem.W.mg_of X G a4, (fun_mk (st := s_number_of) l4 c4 k4).binds fun _ _ _ _ _ _ us hl => match us, hl with | [_], _ => rfl⟩
    d_numbers_of := ⟨_, _, fun_mk (st := s_numbers_of) l5 c5 k5, PySem.W.mg_of X G a5, (fun_mk (st := s_numbers_of) l5 c5 k5).binds fun _ _ _ _ _ _ us hl => match us, hl with | [_, _], _ => rfl⟩
    d_read := ⟨_, _, fun_mk (st := s_read) l6 c6 k6, PySem.W.mg_of X G a6, (fun_mk (st := s_read) l6 c6 k6).binds fun _ _ _ _ _ _ us hl => match us, hl with | [_], _ => rfl⟩
    d_read_log := ⟨_, _, fun_mk (st := s_read_log) l7 c7 k7, PySem.W.mg_of X G a7, (fun_mk (st := s_read_log) l7 c7 k7).binds fun _ _ _ _ _ _ us hl => match us, hl with | [_], _ => rfl⟩
    d__law_begun := ⟨_, _, fun_mk (st := s__law_begun) l8 c8 k8, PySem.W.mg_of X G a8, (fun_mk (st := s__law_begun) l8 c8 k8).binds fun _ _ _ _ _ _ us hl => match us, hl with | [_], _ => rfl⟩
    d__law_take := ⟨_, _, fun_mk (st := s__law_take) l9 c9 k9, PySem.W.mg_of X G a9, (fun_mk (st := s__law_take) l9 c9 k9).binds fun _ _ _ _ _ _ us hl => match us, hl with | [_, _], _ => rfl⟩
    d__law_alike := ⟨_, _, fun_mk (st := s__law_alike) l10 c10 k10, PySem.W.mg_of X G a10, (fun_mk (st := s__law_alike) l10 c10 k10).binds fun _ _ _ _ _ _ us hl => match us, hl with | [_, _], _ => rfl⟩
    d__law_told := ⟨_, _, fun_mk (st := s__law_told) l11 c11 k11, PySem.W.mg_of X G a11, (fun_mk (st := s__law_told) l11 c11 k11).binds fun _ _ _ _ _ _ us hl => match us, hl with | [_], _ => rfl⟩
    d__law_spoilt := ⟨_, _, fun_mk (st := s__law_spoilt) l12 c12 k12, PySem.W.mg_of X G a12, (fun_mk (st := s__law_spoilt) l12 c12 k12).binds fun _ _ _ _ _ _ us hl => match us, hl with | [_, _], _ => rfl⟩
    d__law_numbers := ⟨_, _, fun_mk (st := s__law_numbers) l13 c13 k13, PySem.W.mg_of X G a13, (fun_mk (st := s__law_numbers) l13 c13 k13).binds fun _ _ _ _ _ _ us hl => match us, hl with | [_], _ => rfl⟩
    d__law_token := ⟨_, _, fun_mk (st := s__law_token) l14 c14 k14, PySem.W.mg_of X G a14, (fun_mk (st := s__law_token) l14 c14 k14).binds fun _ _ _ _ _ _ us hl => match us, hl with | [_], _ => rfl⟩
    d__law_log := ⟨_, _, fun_mk (st := s__law_log) l15 c15 k15, PySem.W.mg_of X G a15, (fun_mk (st := s__law_log) l15 c15 k15).binds fun _ _ _ _ _ _ us hl => match us, hl with | [_], _ => rfl⟩
    x_BadText := ⟨E_BadText, fI_BadText, _, PySem.W.mg_of X G e_BadText, ⟨⟨_, _, _, _, _, _, _, _, _, _, _, _, _, _, _, lX_BadText, rv_BadText⟩, sa_BadText, sb_BadText, ty_BadText, kp_BadText⟩, iC_BadText, tI_BadText, fun f hf => by
        simp only [List.mem_cons, List.not_mem_nil, or_false] at hf
        rcases hf with rfl
        · exact nfrow_BadText
        , fun_mk (st := s_BadText___init__) lI_BadText cI_BadText kI_BadText, (fun_mk (st := s_BadText___init__) lI_BadText cI_BadText kI_BadText).binds fun _ _ _ _ _ _ us hl => match us, hl with | [_, _], _ => rfl⟩
    binit := ⟨CP, PySem.W.mg_of X G ePort, ⟨pRd, pGa⟩, pIn⟩
  }
  have T : Txt K mg := {
    b_all := PySem.W.mg_none_of X G b_all
    b_any := PySem.W.mg_none_of X G b_any
    b_bool := PySem.W.mg_none_of X G b_bool
    b_enumerate := PySem.W.mg_none_of X G b_enumerate
    b_int := PySem.W.mg_none_of X G b_int
    b_isinstance := PySem.W.mg_none_of X G b_isinstance
    b_len := PySem.W.mg_none_of X G b_len
    b_list := PySem.W.mg_none_of X G b_list
    b_max := PySem.W.mg_none_of X G b_max
    b_min := PySem.W.mg_none_of X G b_min
    b_range := PySem.W.mg_none_of X G b_range
    b_str := PySem.W.mg_none_of X G b_str
    b_tuple := PySem.W.mg_none_of X G b_tuple
    c_FIGURES := ⟨_, .str "0123456789", PySem.W.mg_of X G g_FIGURES, ⟨_, rfl⟩, fun _ => rfl⟩
    c_LEAST_SITES := ⟨_, .int 2, PySem.W.mg_of X G g_LEAST_SITES, ⟨_, rfl⟩, fun _ => rfl⟩
    c_LINE := ⟨_, .str "\n", PySem.W.mg_of X G g_LINE, ⟨_, rfl⟩, fun _ => rfl⟩
    c_MOST_PUTS := ⟨_, .int 999, PySem.W.mg_of X G g_MOST_PUTS, ⟨_, rfl⟩, fun _ => rfl⟩
    c_MOST_SITES := ⟨_, .int 5, PySem.W.mg_of X G g_MOST_SITES, ⟨_, rfl⟩, fun _ => rfl⟩
    c_PUT := ⟨_, .str "put", PySem.W.mg_of X G g_PUT, ⟨_, rfl⟩, fun _ => rfl⟩
    e_BadToken := ⟨E_BadToken, PySem.W.mg_of X G e_BadToken, x_BadToken, kp_BadToken, sb_BadToken, ty_BadToken⟩
  }
  have ER : ErrK K mg ["BadText", "BadToken"] := {
    ex := fun nm hm => by
      simp only [List.mem_cons, List.not_mem_nil, or_false] at hm
      rcases hm with rfl | rfl
      · refine ⟨E_BadText, PySem.W.mg_of X G e_BadText, ⟨(by obtain ⟨cd, hcd, _⟩ := PySem.W.any_some hd_BadText; rw [hcd]; rfl), hg_BadText, hk_BadText, sb_BadText, ha_BadText, hn, ht, hm_BadText⟩, ⟨hg_BadText, hk_BadText, sb_BadText, hd_BadText⟩, fun c hc => ?_, qV_BadText, fun f hf => ?_⟩
        · simp only [errNames, List.mem_cons, List.not_mem_nil, or_false] at hc
          rcases hc with rfl | rfl | rfl | rfl | rfl | rfl | rfl | rfl | rfl | rfl | rfl | rfl
          · exact ⟨E_BadCount, PySem.W.mg_of X G e_BadCount, qBadCount_BadText⟩
          · exact ⟨E_BadKey, PySem.W.mg_of X G e_BadKey, qBadKey_BadText⟩
          · exact ⟨E_BadLogs, PySem.W.mg_of X G e_BadLogs, qBadLogs_BadText⟩
          · exact ⟨E_BadNow, PySem.W.mg_of X G e_BadNow, qBadNow_BadText⟩
          · exact ⟨E_BadRules, PySem.W.mg_of X G e_BadRules, qBadRules_BadText⟩
          · exact ⟨E_BadSite, PySem.W.mg_of X G e_BadSite, qBadSite_BadText⟩
          · exact ⟨E_BadText, PySem.W.mg_of X G e_BadText, qBadText_BadText⟩
          · exact ⟨E_BadToken, PySem.W.mg_of X G e_BadToken, qBadToken_BadText⟩
          · exact ⟨E_BadWants, PySem.W.mg_of X G e_BadWants, qBadWants_BadText⟩
          · exact ⟨E_BadWorth, PySem.W.mg_of X G e_BadWorth, qBadWorth_BadText⟩
          · exact ⟨E_NotYet, PySem.W.mg_of X G e_NotYet, qNotYet_BadText⟩
          · exact ⟨E_Stale, PySem.W.mg_of X G e_Stale, qStale_BadText⟩
        · simp only [List.mem_cons, List.not_mem_nil, or_false] at hf
          rcases hf with rfl | rfl | rfl | rfl
          · exact nsite_BadText
          · exact nrow_BadText
          · exact nlacks_BadText
          · exact nby_BadText
      · refine ⟨E_BadToken, PySem.W.mg_of X G e_BadToken, ⟨(by obtain ⟨cd, hcd, _⟩ := PySem.W.any_some hd_BadToken; rw [hcd]; rfl), hg_BadToken, hk_BadToken, sb_BadToken, ha_BadToken, hn, ht, hm_BadToken⟩, ⟨hg_BadToken, hk_BadToken, sb_BadToken, hd_BadToken⟩, fun c hc => ?_, qV_BadToken, fun f hf => ?_⟩
        · simp only [errNames, List.mem_cons, List.not_mem_nil, or_false] at hc
          rcases hc with rfl | rfl | rfl | rfl | rfl | rfl | rfl | rfl | rfl | rfl | rfl | rfl
          · exact ⟨E_BadCount, PySem.W.mg_of X G e_BadCount, qBadCount_BadToken⟩
          · exact ⟨E_BadKey, PySem.W.mg_of X G e_BadKey, qBadKey_BadToken⟩
          · exact ⟨E_BadLogs, PySem.W.mg_of X G e_BadLogs, qBadLogs_BadToken⟩
          · exact ⟨E_BadNow, PySem.W.mg_of X G e_BadNow, qBadNow_BadToken⟩
          · exact ⟨E_BadRules, PySem.W.mg_of X G e_BadRules, qBadRules_BadToken⟩
          · exact ⟨E_BadSite, PySem.W.mg_of X G e_BadSite, qBadSite_BadToken⟩
          · exact ⟨E_BadText, PySem.W.mg_of X G e_BadText, qBadText_BadToken⟩
          · exact ⟨E_BadToken, PySem.W.mg_of X G e_BadToken, qBadToken_BadToken⟩
          · exact ⟨E_BadWants, PySem.W.mg_of X G e_BadWants, qBadWants_BadToken⟩
          · exact ⟨E_BadWorth, PySem.W.mg_of X G e_BadWorth, qBadWorth_BadToken⟩
          · exact ⟨E_NotYet, PySem.W.mg_of X G e_NotYet, qNotYet_BadToken⟩
          · exact ⟨E_Stale, PySem.W.mg_of X G e_Stale, qStale_BadToken⟩
        · simp only [List.mem_cons, List.not_mem_nil, or_false] at hf
          rcases hf with rfl | rfl | rfl | rfl
          · exact nsite_BadToken
          · exact nrow_BadToken
          · exact nlacks_BadToken
          · exact nby_BadToken
    port := ⟨CP, PySem.W.mg_of X G ePort, fun nm hm cls hc => by
      simp only [List.mem_cons, List.not_mem_nil, or_false] at hm
      rcases hm with rfl | rfl
      · rw [PySem.W.mg_of X G e_BadText] at hc; cases hc; exact qP_BadText
      · rw [PySem.W.mg_of X G e_BadToken] at hc; cases hc; exact qP_BadToken
      ⟩
    val := PySem.W.mg_none_of X G zVal
    isi := PySem.W.mg_none_of X G b_isinstance
  }
  refine ⟨_, [(cc, PT)], upSp K mg (sp_law PT), fun p hp => ?_, fun p hp => ?_, fun p hp => ?_, fun s u => .of_eq rfl, fun H a ns hl hb hT hS => law_start hl (hT (cc, PT) (by simp)) hS, fun base hK hG hTB => law_mk rfl (hTB (cc, PT) (by simp)) lL cL T D ER⟩
  · rw [List.mem_singleton.mp hp]; exact OT
  · rw [List.mem_singleton.mp hp]; exact nP
  · rw [List.mem_singleton.mp hp]; exact ⟨_, vsc, file, tf, flags, tg, inF, text, tt, X _ _ lc, rfl, rfl, v11, w11, w18, w7, w9, w10, cne⟩
end
end K15
open PySem PySem.W PyProof.Rows in
set_option maxRecDepth 100000 in
set_option maxHeartbeats 0 in
theorem PySem.Challenge.cw_causalports_k15_texts_refused_holds : PySem.Challenge.rw_causalports_k15_texts_refused.Holds := by
  w_on; o_law; k_head; (case hw => w_witness2)
  k_fill
  refine LamX.walk_ofTs (l := PySem.Challenge.rw_causalports_k15_texts_refused) (n := 63) (k := 17) (x := "_law_script") (CX := fun w => L2.CX (PySem.Challenge.rw_causalports_k15_texts_refused).prog w) rfl (by decide) rfl ⟨rfl, by decide, by decide⟩ (fun w h Y => PySem.W.km_in_of Y) ?F (fun w H s e s' z => by obtain ⟨_, _, _, _, _, _, _, _, _, _, _, _, z⟩ := z; exact z)
  case F =>
    intro w mg fa h Y KX G hmg
    refine' K15.all_mk KX G hmg ?OT ?a0 ?l0 ?c0 ?k0 ?a1 ?l1 ?c1 ?k1 ?a2 ?l2 ?c2 ?k2 ?a3 ?l3 ?c3 ?k3 ?a4 ?l4 ?c4 ?k4 ?a5 ?l5 ?c5 ?k5 ?a6 ?l6 ?c6 ?k6 ?a7 ?l7 ?c7 ?k7 ?a8 ?l8 ?c8 ?k8 ?a9 ?l9 ?c9 ?k9 ?a10 ?l10 ?c10 ?k10 ?a11 ?l11 ?c11 ?k11 ?a12 ?l12 ?c12 ?k12 ?a13 ?l13 ?c13 ?k13 ?a14 ?l14 ?c14 ?k14 ?a15 ?l15 ?c15 ?k15 ?aL ?lL ?cL ?lc ?v11 ?w11 ?w18 ?w7 ?w9 ?w10 ?cne ?nP ?b_all ?b_any ?b_bool ?b_enumerate ?b_int ?b_isinstance ?b_len ?b_list ?b_max ?b_min ?b_range ?b_str ?b_tuple ?g_FIGURES ?g_LEAST_SITES ?g_LINE ?g_MOST_PUTS ?g_MOST_SITES ?g_PUT ?ePort ?zVal ?hn ?ht ?e_BadCount ?e_BadKey ?e_BadLogs ?e_BadNow ?e_BadRules ?e_BadSite ?e_BadText ?e_BadToken ?e_BadWants ?e_BadWorth ?e_NotYet ?e_Stale ?sb_BadText ?ty_BadText ?x_BadToken ?kp_BadToken ?sb_BadToken ?ty_BadToken ?pRd ?pGa ?pIn ?kp_BadText ?lX_BadText ?rv_BadText ?sa_BadText ?iC_BadText ?tI_BadText ?nfrow_BadText ?lI_BadText ?cI_BadText ?kI_BadText ?hg_BadText ?hk_BadText ?ha_BadText ?hm_BadText ?hd_BadText ?nsite_BadText ?nrow_BadText ?nlacks_BadText ?nby_BadText ?qBadCount_BadText ?qBadKey_BadText ?qBadLogs_BadText ?qBadNow_BadText ?qBadRules_BadText ?qBadSite_BadText ?qBadText_BadText ?qBadToken_BadText ?qBadWants_BadText ?qBadWorth_BadText ?qNotYet_BadText ?qStale_BadText ?qV_BadText ?qP_BadText ?hg_BadToken ?hk_BadToken ?ha_BadToken ?hm_BadToken ?hd_BadToken ?nsite_BadToken ?nrow_BadToken ?nlacks_BadToken ?nby_BadToken ?qBadCount_BadToken ?qBadKey_BadToken ?qBadLogs_BadToken ?qBadNow_BadToken ?qBadRules_BadToken ?qBadSite_BadToken ?qBadText_BadToken ?qBadToken_BadToken ?qBadWants_BadToken ?qBadWorth_BadToken ?qNotYet_BadToken ?qStale_BadToken ?qV_BadToken ?qP_BadToken
    (case a0 => k_is)
    (case l0 => k_is)
    (case c0 => k_is)
    (case k0 => k_is)
    (case a1 => k_is)
    (case l1 => k_is)
    (case c1 => k_is)
    (case k1 => k_is)
    (case a2 => k_is)
    (case l2 => k_is)
    (case c2 => k_is)
    (case k2 => k_is)
    (case a3 => k_is)
    (case l3 => k_is)
    (case c3 => k_is)
    (case k3 => k_is)
    (case a4 => k_is)
    (case l4 => k_is)
    (case c4 => k_is)
    (case k4 => k_is)
    (case a5 => k_is)
    (case l5 => k_is)
    (case c5 => k_is)
    (case k5 => k_is)
    (case a6 => k_is)
    (case l6 => k_is)
    (case c6 => k_is)
    (case k6 => k_is)
    (case a7 => k_is)
    (case l7 => k_is)
    (case c7 => k_is)
    (case k7 => k_is)
    (case a8 => k_is)
    (case l8 => k_is)
    (case c8 => k_is)
    (case k8 => k_is)
    (case a9 => k_is)
    (case l9 => k_is)
    (case c9 => k_is)
    (case k9 => k_is)
    (case a10 => k_is)
    (case l10 => k_is)
    (case c10 => k_is)
    (case k10 => k_is)
    (case a11 => k_is)
    (case l11 => k_is)
    (case c11 => k_is)
    (case k11 => k_is)
    (case a12 => k_is)
    (case l12 => k_is)
    (case c12 => k_is)
    (case k12 => k_is)
    (case a13 => k_is)
    (case l13 => k_is)
    (case c13 => k_is)
    (case k13 => k_is)
    (case a14 => k_is)
    (case l14 => k_is)
    (case c14 => k_is)
    (case k14 => k_is)
    (case a15 => k_is)
    (case l15 => k_is)
    (case c15 => k_is)
    (case k15 => k_is)
    (case aL => k_is)
    (case lL => k_is)
    (case cL => k_is)
    (case lc => k_is)
    (case v11 => (first | rfl | decide | k_is))
    (case w11 => (first | rfl | decide | k_is))
    (case w18 => (first | rfl | decide | k_is))
    (case w7 => (first | rfl | decide | k_is))
    (case w9 => (first | rfl | decide | k_is))
    (case w10 => (first | rfl | decide | k_is))
    (case cne => (first | rfl | decide | k_is))
    (case nP => (first | rfl | kernel_rfl | decide))
    (case b_all => k_is)
    (case b_any => k_is)
    (case b_bool => k_is)
    (case b_enumerate => k_is)
    (case b_int => k_is)
    (case b_isinstance => k_is)
    (case b_len => k_is)
    (case b_list => k_is)
    (case b_max => k_is)
    (case b_min => k_is)
    (case b_range => k_is)
    (case b_str => k_is)
    (case b_tuple => k_is)
    (case g_FIGURES => k_is)
    (case g_LEAST_SITES => k_is)
    (case g_LINE => k_is)
    (case g_MOST_PUTS => k_is)
    (case g_MOST_SITES => k_is)
    (case g_PUT => k_is)
    (case ePort => k_is)
    (case zVal => k_is)
    (case hn => k_is)
    (case ht => k_is)
    (case e_BadCount => k_is)
    (case e_BadKey => k_is)
    (case e_BadLogs => k_is)
    (case e_BadNow => k_is)
    (case e_BadRules => k_is)
    (case e_BadSite => k_is)
    (case e_BadText => k_is)
    (case e_BadToken => k_is)
    (case e_BadWants => k_is)
    (case e_BadWorth => k_is)
    (case e_NotYet => k_is)
    (case e_Stale => k_is)
    (case sb_BadText => k_is)
    (case ty_BadText => k_is)
    (case x_BadToken => k_exc)
    (case kp_BadToken => k_is)
    (case sb_BadToken => k_is)
    (case ty_BadToken => k_is)
    (case pRd => k_is)
    (case pGa => k_is)
    (case pIn => k_is)
    (case kp_BadText => k_is)
    (case lX_BadText => k_is)
    (case rv_BadText => (first | rfl | decide +kernel))
    (case sa_BadText => k_is)
    (case iC_BadText => k_is)
    (case tI_BadText => k_is)
    (case nfrow_BadText => k_is)
    (case lI_BadText => k_is)
    (case cI_BadText => k_is)
    (case kI_BadText => k_is)
    (case hg_BadText => k_is)
    (case hk_BadText => k_is)
    (case ha_BadText => k_is)
    (case hm_BadText => k_is)
    (case hd_BadText => k_is)
    (case nsite_BadText => k_is)
    (case nrow_BadText => k_is)
    (case nlacks_BadText => k_is)
    (case nby_BadText => k_is)
    (case qBadCount_BadText => kit_is)
    (case qBadKey_BadText => kit_is)
    (case qBadLogs_BadText => kit_is)
    (case qBadNow_BadText => kit_is)
    (case qBadRules_BadText => kit_is)
    (case qBadSite_BadText => kit_is)
    (case qBadText_BadText => kit_is)
    (case qBadToken_BadText => kit_is)
    (case qBadWants_BadText => kit_is)
    (case qBadWorth_BadText => kit_is)
    (case qNotYet_BadText => kit_is)
    (case qStale_BadText => kit_is)
    (case qV_BadText => kit_is)
    (case qP_BadText => kts_exm)
    (case hg_BadToken => k_is)
    (case hk_BadToken => k_is)
    (case ha_BadToken => k_is)
    (case hm_BadToken => k_is)
    (case hd_BadToken => k_is)
    (case nsite_BadToken => k_is)
    (case nrow_BadToken => k_is)
    (case nlacks_BadToken => k_is)
    (case nby_BadToken => k_is)
    (case qBadCount_BadToken => kit_is)
    (case qBadKey_BadToken => kit_is)
    (case qBadLogs_BadToken => kit_is)
    (case qBadNow_BadToken => kit_is)
    (case qBadRules_BadToken => kit_is)
    (case qBadSite_BadToken => kit_is)
    (case qBadText_BadToken => kit_is)
    (case qBadToken_BadToken => kit_is)
    (case qBadWants_BadToken => kit_is)
    (case qBadWorth_BadToken => kit_is)
    (case qNotYet_BadToken => kit_is)
    (case qStale_BadToken => kit_is)
    (case qV_BadToken => kit_is)
    (case qP_BadToken => kts_exm)
    (case OT => exact PySem.W.km_tabs_of Y _ (by decide))
