import PyProof.Rows.All
import Wide.All
import OpenK.AllK
import Wide.FinOn
import HandS.ForMost
import HandS.Lambda
import HandS.WordsExc
import HandS.TupAny
import HandS.DeepEq
import HandS.Deep
import HandS.Flow
import HandS.TupMul
import HandS.TupLe
import PyProof.ListMulRoad
import PyProof.FactsAll.tuple_2
import HandS.TupLen
import HandS.Conv
import HandS.IsInst
import HandS.RaiseMore
import HandS.Text
import HandS.Style
import HandS.Zip
import KE.GoesEnum
import KE.GoesMore
import HandS.Small
import HandS.ExcInit
import KE.KExcSuper
import KE.KExcInit
import KE.KExcPX
import KE.KExcIs
import PyProof.EqAt
import PyProof.EqKinds
import PyProof.ReprRoads
import PyProof.CallFns
import HandS.Wide
import HandS.Walk
import HandS.ExcValue
import HandS.ExcOwn
import HandS.FStr
import HandS.StrMore
import HandS.CallLocal
import HandS.Defaults
import PySem.Challenge.RW_sagwire_k51_texts_refused
set_option Elab.async false
set_option linter.all false
set_option maxRecDepth 100000
set_option maxHeartbeats 4000000
namespace DL
open PySem L2

/-! ### data without a heap -/
/-- deep data: tuples, lists and dicts as values; an exception by its class's number and what it bears; an object by its number; the draws -/
inductive D where
  | non | bl (b : Bool) | int (i : Int) | str (s : Str)
  | tup (l : List D) | lst (l : List D) | dic (tb : Bool) (ks vs : List D)
  | exc (k : Nat) (d : D) | obj (n : Nat) | dr | scr (n : Nat)
  | lds (l : List D) | fn (k : Nat)
  | clo (f c : Nat) (q : Str) (ds : List D) (vs : List V)

/-- addresses by number; the tables of code objects, each with the name of what is made there -/
structure GT where
  a : Nat → Addr
  t : List (Addr × Str)
instance : CoeFun GT (fun _ => Nat → Addr) := ⟨GT.a⟩

/-- who owns an address -/
inductive Ow where
  | far | tmp | tmpk (k : Nat) | slot (i : Nat) | obj (n : Nat) | dr | drl | tab
  deriving DecidableEq
abbrev OW := Addr → Option Ow

def Ow.isSlot : Option Ow → Bool
  | some (.slot _) => true
  | _ => false
/-- what may be changed by a step of this frame -/
def Ow.loose : Option Ow → Bool
  | some (.slot _) => true
  | some (.obj _) => true
  | some .dr => true
  | some .drl => true
  | some .tab => true
  | _ => false

def keyD : Key → D
  | .inl i => .int i
  | .inr s => .str s

section
variable (G : GT) (H : Hp) (ow : OW)
/-- a tuple, a list that nobody changes -/
def TupAt (a : Addr) (xs : List V) : Prop := ow a = none ∧ H a = some (.tup xs)
/-- a tuple whose object is known -/
def LdsAt (a : Addr) (xs : List V) : Prop := ow a = none ∧ ∃ o : Obj, o.dict = none ∧ H a = some (.frz o (.tup xs))
def TupQ (a : Addr) (xs : List V) : Prop := TupAt H ow a xs ∨ LdsAt H ow a xs
def LstAt (a : Addr) (xs : List V) : Prop := ow a = none ∧ H a = some (.lst xs)
/-- the dict at a: its keys as data, its values -/
def DicAt (a : Addr) (tb : Bool) (ks : List D) (xs : List V) : Prop := match tb with
  | false => ∃ l : List (Key × V), H a = some (.dK l) ∧ ks = l.map (fun p => keyD p.1) ∧ xs = l.map (·.2)
  | true => ∃ l : List (List Key × V), H a = some (.dT l) ∧ ks = l.map (fun p => .tup (p.1.map keyD)) ∧ xs = l.map (·.2)
/-- an exception that is held as a value -/
def excPhi (C : Addr) (od : Option Addr) (a : Addr) : Heap → Prop := fun h => ∃ oe vs, h.get? a = some oe ∧ oe.cls = .ref C ∧ oe.dict = od ∧ oe.data = .fields vs
/-- the field of each own class of the package -/
def xfN : Nat → Str
  | 0 => "place"
  | 1 => "place"
  | 2 => "value"
  | 3 => "at"
  | 4 => "word"
  | 5 => "word"
  | 6 => "name"
  | _ => "most"
def ExcAt (a : Addr) (k : Nat) (x : V) : Prop :=
  (∃ (dx : Addr) (_ : Unit), H a = some (.ext (excPhi (G k) (some dx) a)) ∧ ow dx = none ∧ H dx = some (.xd [(xfN k, x)])) ∨ (H a = some (.ext (excPhi (G k) none a)) ∧ x = .non ∧ k = 8)

mutual
def Rep : D → V → Prop
  | .non, v => v = .non
  | .bl b, v => v = .bl b
  | .int i, v => v = .int i
  | .str s, v => v = .str s
  | .tup l, v => ∃ a xs, v = .ref a ∧ TupAt H ow a xs ∧ RepL l xs
  | .lst l, v => ∃ a xs, v = .ref a ∧ LstAt H ow a xs ∧ RepL l xs
  | .dic tb ks vs, v => ∃ a xs, v = .ref a ∧ ow a = none ∧ DicAt H a tb ks xs ∧ RepL vs xs
  | .exc k d, v => ∃ a x, v = .ref a ∧ ow a = none ∧ ExcAt G H ow a k x ∧ Rep d x
  | .obj n, v => ∃ a, v = .ref a ∧ ow a = some (.obj n) ∧ (H a).isSome
  | .dr, v => ∃ a, v = .ref a ∧ ow a = some .dr ∧ (H a).isSome
  | .scr n, v => ∃ a, v = .ref a ∧ ((ow a = none ∧ ∃ (o : Obj) (ns : List Int), H a = some (.frz o (.lst (ns.map V.int))) ∧ ns.length = n) ∨ (a = G 1000000 ∧ n = G 1000001 ∧ G 1000002 = 1))
  | .fn k, v => v = .ref (G (20 + k))
  | .clo f c q ds vs, v => v = .ref f ∧ ow c = none ∧ H c = some (LamX.CodeO c q) ∧ RepL ds vs
  | .lds l, v => ∃ a xs, v = .ref a ∧ LdsAt H ow a xs ∧ RepL l xs
def RepL : List D → List V → Prop
  | [], xs => xs = []
  | d :: l, xs => ∃ x r, xs = x :: r ∧ Rep d x ∧ RepL l r
end
end

/-! ### from a heap to a later one -/
structure Ext (ow : OW) (H : Hp) (ow' : OW) (H' : Hp) : Prop where
  keep : ∀ b o, H b = some o → Ow.loose (ow b) = false → H' b = some o
  there : ∀ b o, H b = some o → ∃ o', H' b = some o'
  own : ∀ b o, H b = some o → ow' b = ow b ∨ (Ow.isSlot (ow b) = true ∧ ow' b = none)
theorem Ext.refl (ow : OW) (H : Hp) : Ext ow H ow H := ⟨fun _ _ h _ => h, fun _ o h => ⟨o, h⟩, fun _ _ _ => .inl rfl⟩
theorem loose_of_slot {o : Option Ow} (h : Ow.isSlot o = true) : Ow.loose o = true := by
  cases o with
  | none => cases h
  | some o => cases o <;> first | rfl | cases h
theorem Ext.own_keep {ow ow' : OW} {H H' : Hp} (e : Ext ow H ow' H') {b : Addr} {o : HO} (h : H b = some o) (n : Ow.isSlot (ow b) = false) : ow' b = ow b := by
  rcases e.own b o h with q | ⟨q, _⟩
  · exact q
  · rw [n] at q; cases q
theorem Ext.trans {ow ow1 ow2 : OW} {H H1 H2 : Hp} (a : Ext ow H ow1 H1) (b : Ext ow1 H1 ow2 H2) : Ext ow H ow2 H2 where
  keep := fun c o h l => by
    have h1 := a.keep c o h l
    refine b.keep c o h1 ?_
    have n : Ow.isSlot (ow c) = false := by
      cases q : Ow.isSlot (ow c) with
      | false => rfl
      | true => rw [loose_of_slot q] at l; cases l
    rw [a.own_keep h n]; exact l
  there := fun c o h => by
    obtain ⟨o', h'⟩ := a.there c o h
    exact b.there c o' h'
  own := fun c o h => by
    obtain ⟨o', h'⟩ := a.there c o h
    rcases a.own c o h with e1 | ⟨s1, e1⟩
    · rcases b.own c o' h' with e2 | ⟨s2, e2⟩
      · exact .inl (e2.trans e1)
      · exact .inr ⟨by rw [← e1]; exact s2, e2⟩
    · rcases b.own c o' h' with e2 | ⟨s2, e2⟩
      · exact .inr ⟨s1, e2.trans e1⟩
      · exact .inr ⟨s1, e2⟩
theorem Ext.free {ow ow' : OW} {H H' : Hp} (e : Ext ow H ow' H') {p : Addr} (h : H' p = none) : H p = none := by
  cases q : H p with
  | none => rfl
  | some o =>
    obtain ⟨o', h'⟩ := e.there p o q
    rw [h] at h'; cases h'

section
variable {G : GT} {K : PySem.W.Frag} {H H' : Hp} {ow ow' : OW}
theorem Rd.ex {H : Hp} {a : Addr} {u : HO} (h : Rd H a u) : ∃ o, H a = some o := by
  rcases h with h | ⟨o, h⟩
  · exact ⟨_, h⟩
  · exact ⟨_, h⟩
theorem Ext.rd (e : Ext ow H ow' H') {a : Addr} {u : HO} (n : ow a = none) (h : Rd H a u) : ow' a = none ∧ Rd H' a u := by
  obtain ⟨o, ho⟩ := Rd.ex h
  have n' : ow' a = none := (e.own_keep ho (by rw [n]; rfl)).trans n
  refine ⟨n', ?_⟩
  rcases h with h | ⟨o, h⟩
  · exact .inl (e.keep _ _ h (by rw [n]; rfl))
  · exact .inr ⟨o, e.keep _ _ h (by rw [n]; rfl)⟩
theorem Ext.of_none0 (e : Ext ow H ow' H') {a : Addr} {o : HO} (h : H a = some o) (n : ow a = none) : ow' a = none ∧ H' a = some o :=
  ⟨(e.own_keep h (by rw [n]; rfl)).trans n, e.keep _ _ h (by rw [n]; rfl)⟩
theorem TupAt.ext (e : Ext ow H ow' H') {a : Addr} {xs : List V} (h : TupAt H ow a xs) : TupAt H' ow' a xs := e.of_none0 h.2 h.1
theorem LdsAt.ext (e : Ext ow H ow' H') {a : Addr} {xs : List V} (h : LdsAt H ow a xs) : LdsAt H' ow' a xs := by
  obtain ⟨n, o, d, h⟩ := h
  exact ⟨(e.of_none0 h n).1, o, d, (e.of_none0 h n).2⟩
theorem TupQ.ext (e : Ext ow H ow' H') {a : Addr} {xs : List V} (h : TupQ H ow a xs) : TupQ H' ow' a xs := h.imp (TupAt.ext e) (LdsAt.ext e)
theorem ExcAt.ext {G : GT} (e : Ext ow H ow' H') {a : Addr} {k : Nat} {x : V} (n : ow a = none) (h : ExcAt G H ow a k x) : ow' a = none ∧ ExcAt G H' ow' a k x := by
  rcases h with ⟨dx, m, h1, h2, h3⟩ | ⟨h1, h2⟩
  · exact ⟨(e.of_none0 h1 n).1, .inl ⟨dx, m, (e.of_none0 h1 n).2, e.of_none0 h3 h2⟩⟩
  · exact ⟨(e.of_none0 h1 n).1, .inr ⟨(e.of_none0 h1 n).2, h2⟩⟩
theorem LstAt.ext (e : Ext ow H ow' H') {a : Addr} {xs : List V} (h : LstAt H ow a xs) : LstAt H' ow' a xs := e.of_none0 h.2 h.1
theorem DicAt.ex {a : Addr} {tb : Bool} {ks : List D} {xs : List V} (h : DicAt H a tb ks xs) : ∃ o, H a = some o := by
  cases tb with
  | false => obtain ⟨l, h, _⟩ := h; exact ⟨_, h⟩
  | true => obtain ⟨l, h, _⟩ := h; exact ⟨_, h⟩
theorem DicAt.same {a : Addr} {tb : Bool} {ks : List D} {xs : List V} (e : ∀ o, H a = some o → H' a = some o) (h : DicAt H a tb ks xs) : DicAt H' a tb ks xs := by
  cases tb with
  | false => obtain ⟨l, h, r⟩ := h; exact ⟨l, e _ h, r⟩
  | true => obtain ⟨l, h, r⟩ := h; exact ⟨l, e _ h, r⟩
theorem DicAt.ext (e : Ext ow H ow' H') {a : Addr} {tb : Bool} {ks : List D} {xs : List V} (n : ow a = none) (h : DicAt H a tb ks xs) : ow' a = none ∧ DicAt H' a tb ks xs := by
  obtain ⟨o, ho⟩ := h.ex
  exact ⟨(e.own_keep ho (by rw [n]; rfl)).trans n, h.same fun o q => e.keep _ _ q (by rw [n]; rfl)⟩
mutual
theorem Rep.ext (e : Ext ow H ow' H') : ∀ (d : D) (v : V), Rep G H ow d v → Rep G H' ow' d v
  | .non, _, h => by rw [Rep] at h ⊢; exact h
  | .bl _, _, h => by rw [Rep] at h ⊢; exact h
  | .int _, _, h => by rw [Rep] at h ⊢; exact h
  | .str _, _, h => by rw [Rep] at h ⊢; exact h
  | .tup l, v, h => by
    rw [Rep] at h ⊢
    obtain ⟨a, xs, r, t, q⟩ := h
    exact ⟨a, xs, r, TupAt.ext e t, RepL.ext e l xs q⟩
  | .lst l, v, h => by
    rw [Rep] at h ⊢
    obtain ⟨a, xs, r, t, q⟩ := h
    exact ⟨a, xs, r, LstAt.ext e t, RepL.ext e l xs q⟩
  | .dic tb ks vs, v, h => by
    rw [Rep] at h ⊢
    obtain ⟨a, xs, r, n, t, q⟩ := h
    obtain ⟨n', t'⟩ := t.ext e n
    exact ⟨a, xs, r, n', t', RepL.ext e vs xs q⟩
  | .exc k d, v, h => by
    rw [Rep] at h ⊢
    obtain ⟨a, x, r, n, t, q⟩ := h
    obtain ⟨n', t'⟩ := t.ext e n
    exact ⟨a, x, r, n', t', Rep.ext e d x q⟩
  | .obj n, v, h => by
    rw [Rep] at h ⊢
    obtain ⟨a, r, n', i⟩ := h
    obtain ⟨o, ho⟩ := Option.isSome_iff_exists.mp i
    refine ⟨a, r, (e.own_keep ho (by rw [n']; rfl)).trans n', ?_⟩
    obtain ⟨o', h'⟩ := e.there a o ho
    rw [h']; rfl
  | .dr, v, h => by
    rw [Rep] at h ⊢
    obtain ⟨a, r, n', i⟩ := h
    obtain ⟨o, ho⟩ := Option.isSome_iff_exists.mp i
    refine ⟨a, r, (e.own_keep ho (by rw [n']; rfl)).trans n', ?_⟩
    obtain ⟨o', h'⟩ := e.there a o ho
    rw [h']; rfl
  | .fn n, v, h => by rw [Rep] at h ⊢; exact h
  | .clo f c q ds vs, v, h => by
    rw [Rep] at h ⊢
    obtain ⟨r, n, t, p⟩ := h
    exact ⟨r, (e.of_none0 t n).1, (e.of_none0 t n).2, RepL.ext e ds vs p⟩
  | .scr n, v, h => by
    rw [Rep] at h ⊢
    obtain ⟨a, r, i⟩ := h
    rcases i with ⟨n', o, xs, ho, i⟩ | i
    · exact ⟨a, r, .inl ⟨(e.of_none0 ho n').1, o, xs, (e.of_none0 ho n').2, i⟩⟩
    · exact ⟨a, r, .inr i⟩
  | .lds l, v, h => by
    rw [Rep] at h ⊢
    obtain ⟨a, xs, r, t, q⟩ := h
    exact ⟨a, xs, r, LdsAt.ext e t, RepL.ext e l xs q⟩
theorem RepL.ext (e : Ext ow H ow' H') : ∀ (l : List D) (xs : List V), RepL G H ow l xs → RepL G H' ow' l xs
  | [], _, h => by rw [RepL] at h ⊢; exact h
  | d :: l, xs, h => by
    rw [RepL] at h ⊢
    obtain ⟨x, r, e1, q1, q2⟩ := h
    exact ⟨x, r, e1, Rep.ext e d x q1, RepL.ext e l r q2⟩
end
end
end DL
namespace DL
open PySem L2

/-! ### states and results -/
inductive Sv where
  | v (d : D) | ol (l : List D) | od (tb : Bool) (ks vs : List D)
inductive Rv where
  | v (d : D) | ol (l : List D) | od (tb : Bool) (ks vs : List D) | al (i : Nat)
structure Ob where
  c : Nat
  fs : List (Str × D)
abbrev Gst := List Ob
structure Sd where
  e : List (Option Sv)
  g : Gst
structure Xd where
  k : Nat
  d : D
abbrev DK := Rv → Sd → Prop
abbrev DX := Xd → Sd → Prop
abbrev DE := Sd → DK → DX → Prop
abbrev DT := Sd → (Bool → Sd → Prop) → DX → Prop
abbrev DA := Sd → (List D → Sd → Prop) → DX → Prop

def bindO {α : Type} (o : Option α) (k : α → Prop) : Prop := match o with
  | some a => k a
  | none => False
theorem bindO_some {α : Type} {o : Option α} {k : α → Prop} (h : bindO o k) : ∃ a, o = some a ∧ k a := by
  cases o with
  | none => exact h.elim
  | some a => exact ⟨a, rfl, h⟩

def nthO {α : Type} : List (Option α) → Nat → Option α
  | [], _ => none
  | x :: _, 0 => x
  | _ :: l, n + 1 => nthO l n
theorem nthO_eq {α : Type} : ∀ (l : List (Option α)) (i : Nat) {a : α}, nthO l i = some a → l[i]? = some (some a)
  | [], _, _, h => by cases h
  | x :: l, 0, a, h => by simpa [nthO] using h
  | x :: l, n + 1, a, h => by simpa using nthO_eq l n h
theorem nthO_of {α : Type} : ∀ (l : List (Option α)) (i : Nat) {a : α}, l[i]? = some (some a) → nthO l i = some a
  | [], _, _, h => by simp at h
  | x :: l, 0, a, h => by simpa [nthO] using h
  | x :: l, n + 1, a, h => nthO_of l n (by simpa using h)
def setN {α : Type} : List (Option α) → Nat → α → List (Option α)
  | [], _, _ => []
  | _ :: l, 0, a => some a :: l
  | x :: l, n + 1, a => x :: setN l n a
theorem setN_eq {α : Type} : ∀ (l : List (Option α)) (i : Nat) (a : α), setN l i a = l.set i (some a)
  | [], _, _ => rfl
  | x :: l, 0, a => rfl
  | x :: l, n + 1, a => by simp [setN, setN_eq l n a]
def Sd.put (s : Sd) (i : Nat) (v : Sv) : Sd := ⟨setN s.e i v, s.g⟩

section
variable (G : GT) (ow : OW) (H : Hp)
def RepS (i : Nat) : Sv → V → Prop
  | .v d, v => Rep G H ow d v
  | .ol l, v => ∃ a xs, v = .ref a ∧ ow a = some (.slot i) ∧ H a = some (.lst xs) ∧ RepL G H ow l xs
  | .od tb ks vs, v => ∃ a xs, v = .ref a ∧ ow a = some (.slot i) ∧ DicAt H a tb ks xs ∧ RepL G H ow vs xs
/-- the draws of a law -/
def DrawAt (a : Addr) : Prop := ∃ (m t : Int) (b : Addr) (gs : List Int), H a = some (.dK [(Sum.inr "mixed", .int m), (Sum.inr "great", .ref b), (Sum.inr "turn", .int t)]) ∧ ow b = some .drl ∧ H b = some (.lst (gs.map V.int)) ∧
  0 ≤ m ∧ m < 2305843009213693951 ∧ 0 ≤ t ∧ ∀ x ∈ gs, 0 ≤ x
def FldsAt : List (Str × D) → List (Str × V) → Prop
  | [], fs => fs = []
  | (n, d) :: r, fs => ∃ v q, fs = (n, v) :: q ∧ Rep G H ow d v ∧ FldsAt r q
/-- a table of code objects, each of which bears a name -/
def TabAt (a : Addr) (q : Str) : Prop := ∃ ps : Array Value, H a = some (.tbl ps) ∧ TriplesOk ps.toList ∧ ∀ (pos : Pos) (cv : Value), codeAmong pos ps.toList = some cv → ∃ c, cv = .ref c ∧ ow c = none ∧ H c = some (LamX.CodeO c q)
structure GR (g : Gst) : Prop where
  dr : ∀ a, ow a = some .dr → (H a).isSome = true → DrawAt ow H a
  ob : ∀ a n, ow a = some (.obj n) → (H a).isSome = true → ∃ ob dx fs, g[n]? = some ob ∧ H a = some (.ins (G ob.c) dx fs) ∧ FldsAt G ow H ob.fs fs
  inj : ∀ a b n, ow a = some (.obj n) → ow b = some (.obj n) → (H a).isSome = true → (H b).isSome = true → a = b
  tab : ∀ p ∈ G.t, ow p.1 = some .tab ∧ TabAt ow H p.1 p.2
structure ER (σ : St) (s : Sd) : Prop where
  len : σ.length = s.e.length
  sl : ∀ i sv, s.e[i]? = some (some sv) → ∃ v, σ[i]? = some (some v) ∧ RepS G ow H i sv v
  gr : GR G ow H s.g
/-- a value in flight; H0: the heap ahead of the expression -/
def RepR (H0 : Hp) (σ : St) : Rv → V → Prop
  | .v d, v => Rep G H ow d v
  | .ol l, v => ∃ a xs, v = .ref a ∧ H0 a = none ∧ ow a = some .tmp ∧ H a = some (.lst xs) ∧ RepL G H ow l xs
  | .od tb ks vs, v => ∃ a xs, v = .ref a ∧ H0 a = none ∧ ow a = some .tmp ∧ DicAt H a tb ks xs ∧ RepL G H ow vs xs
  | .al i, v => σ[i]? = some (some v)
/-- an exception in flight -/
def RepX (x : Xd) (c : Value) (d : Option Addr) : Prop := c = .ref (G x.k) ∧ ∃ (da : Addr) (_ : Unit) (v : V), d = some da ∧ ow da = none ∧ H da = some (.xd [(xfN x.k, v)]) ∧ Rep G H ow x.d v
end

/-! ### readings over data, as readings over the heap -/
structure Par where
  G : GT
section
variable (G : GT) (W : WX)
def exW (ow : OW) (H : Hp) (σ : St) (Ed : DX) : Prop := ∀ x s', Ed x s' → ∀ c d H' ow', Ext ow H ow' H' → ER G ow' H' σ s' → RepX G ow' H' x c d → W c d σ H'
def liftE (t : DE) : TE := fun σ H Q => ∃ ow s Qd Ed, ER G ow H σ s ∧ t s Qd Ed ∧
  (∀ r s', Qd r s' → ∀ v H' ow', Ext ow H ow' H' → ER G ow' H' σ s' → RepR G ow' H' H σ r v → Q v H') ∧ exW G W ow H σ Ed
def liftT (t : DT) : TT := fun σ H Q => ∃ ow s Qd Ed, ER G ow H σ s ∧ t s Qd Ed ∧
  (∀ b s', Qd b s' → ∀ H' ow', Ext ow H ow' H' → ER G ow' H' σ s' → Q b H') ∧ exW G W ow H σ Ed
def liftA (t : DA) : TA := fun σ H Q => ∃ ow s Qd Ed, ER G ow H σ s ∧ t s Qd Ed ∧
  (∀ ds s', Qd ds s' → ∀ vs H' ow', Ext ow H ow' H' → ER G ow' H' σ s' → RepL G H' ow' ds vs → Q vs H') ∧ exW G W ow H σ Ed
end
structure PD (G : GT) (X : Cx) (W : WX) (e : Expr) (t : DE) : Prop where
  pe : PE X e (liftE G W t)
structure PDT (G : GT) (X : Cx) (W : WX) (e : Expr) (t : DT) : Prop where
  pt : PT X e (liftT G W t)
structure PDW (G : GT) (X : Cx) (W : WX) (e : Expr) (t : DT) : Prop where
  pw : PW X e (liftT G W t)
structure PDA (G : GT) (X : Cx) (W : WX) (es : List Expr) (t : DA) : Prop where
  pa : PA X es (liftA G W t)

/-! ### weaker readings, with the heap's sizes at hand -/
structure Fits (H : Hp) : Prop where
  lst : ∀ a xs, H a = some (.lst xs) → xs.length ≤ sizeLine
  tup : ∀ a xs, H a = some (.tup xs) → xs.length ≤ sizeLine
  frz : ∀ a o xs, H a = some (.frz o (.tup xs)) → xs.length ≤ sizeLine
theorem fits_of {X : Cx} {pins : List (Addr × Obj)} {σ : St} {H : Hp} {s : Shared} (I : Inv X pins σ H s) : Fits H :=
  ⟨fun a xs h => (I.hok a _ h).1, fun a xs h => (I.hok a _ h).1, fun a o xs h => (I.hok a _ h).2.1⟩
theorem Fits.tupQ {ow : OW} {H : Hp} (f : Fits H) {a : Addr} {xs : List V} (t : TupQ H ow a xs) : xs.length ≤ sizeLine := by
  rcases t with t | ⟨_, o, _, t⟩
  · exact f.tup _ _ t.2
  · exact f.frz _ _ _ t
section
variable {X : Cx} {e : Expr} {es : List Expr}
theorem PE.wk {t t' : TE} (h : PE X e t) (w : ∀ σ H Q, Fits H → t' σ H Q → t σ H Q) : PE X e t' :=
  ⟨fun pins s σ H Q I q => h.run pins s σ H Q I (w σ H Q (fits_of I) q)⟩
theorem PT.wk {t t' : TT} (h : PT X e t) (w : ∀ σ H Q, Fits H → t' σ H Q → t σ H Q) : PT X e t' :=
  ⟨fun pins s σ H Q I q => h.run pins s σ H Q I (w σ H Q (fits_of I) q)⟩
theorem PW.wk {t t' : TT} (h : PW X e t) (w : ∀ σ H Q, Fits H → t' σ H Q → t σ H Q) : PW X e t' :=
  ⟨fun wh pins s σ H Q I q => h.run wh pins s σ H Q I (w σ H Q (fits_of I) q)⟩
theorem PA.wk {t t' : TA} (h : PA X es t) (w : ∀ σ H Q, Fits H → t' σ H Q → t σ H Q) : PA X es t' :=
  ⟨fun pos pins s σ H Q I q => h.run pos pins s σ H Q I (w σ H Q (fits_of I) q)⟩
end

/-! ### facts about states -/
section
variable {G : GT} {K : PySem.W.Frag} {W : WX} {ow ow' : OW} {H H' H0 : Hp} {σ : St} {s s' : Sd}
theorem ER.get (E : ER G ow H σ s) {i : Nat} {sv : Sv} (h : nthO s.e i = some sv) : ∃ v, σ[i]? = some (some v) ∧ RepS G ow H i sv v := E.sl i sv (nthO_eq _ _ h)
/-- other owners, the same heap: fewer own things -/
structure Loosen (ow ow' : OW) : Prop where
  non : ∀ b, ow b = none → ow' b = none
  same : ∀ b, Ow.loose (ow b) = true → ow' b = ow b
  back : ∀ b, Ow.loose (ow' b) = true → Ow.isSlot (ow' b) = false → ow b = ow' b
mutual
theorem Rep.loosen (l : Loosen ow ow') : ∀ (d : D) (v : V), Rep G H ow d v → Rep G H ow' d v
  | .non, _, h => by rw [Rep] at h ⊢; exact h
  | .bl _, _, h => by rw [Rep] at h ⊢; exact h
  | .int _, _, h => by rw [Rep] at h ⊢; exact h
  | .str _, _, h => by rw [Rep] at h ⊢; exact h
  | .tup ds, v, h => by
    rw [Rep] at h ⊢
    obtain ⟨a, xs, r, t, q⟩ := h
    exact ⟨a, xs, r, ⟨l.non _ t.1, t.2⟩, RepL.loosen l ds xs q⟩
  | .lst ds, v, h => by
    rw [Rep] at h ⊢
    obtain ⟨a, xs, r, t, q⟩ := h
    exact ⟨a, xs, r, ⟨l.non _ t.1, t.2⟩, RepL.loosen l ds xs q⟩
  | .dic tb ks vs, v, h => by
    rw [Rep] at h ⊢
    obtain ⟨a, xs, r, n, t, q⟩ := h
    exact ⟨a, xs, r, l.non _ n, t, RepL.loosen l vs xs q⟩
  | .exc k d, v, h => by
    rw [Rep] at h ⊢
    obtain ⟨a, x, r, n, t, q⟩ := h
    refine ⟨a, x, r, l.non _ n, ?_, Rep.loosen l d x q⟩
    rcases t with ⟨dx, m, h1, h2, h3⟩ | t
    · exact .inl ⟨dx, m, h1, l.non _ h2, h3⟩
    · exact .inr t
  | .obj n, v, h => by
    rw [Rep] at h ⊢
    obtain ⟨a, r, n', i⟩ := h
    exact ⟨a, r, (l.same _ (by rw [n']; rfl)).trans n', i⟩
  | .dr, v, h => by
    rw [Rep] at h ⊢
    obtain ⟨a, r, n', i⟩ := h
    exact ⟨a, r, (l.same _ (by rw [n']; rfl)).trans n', i⟩
  | .fn n, v, h => by rw [Rep] at h ⊢; exact h
  | .clo f c q ds vs, v, h => by
    rw [Rep] at h ⊢
    obtain ⟨r, n, t, p⟩ := h
    exact ⟨r, l.non _ n, t, RepL.loosen l ds vs p⟩
  | .scr n, v, h => by
    rw [Rep] at h ⊢
    obtain ⟨a, r, i⟩ := h
    exact ⟨a, r, i.imp (fun z => ⟨l.non _ z.1, z.2⟩) id⟩
  | .lds ds, v, h => by
    rw [Rep] at h ⊢
    obtain ⟨a, xs, r, t, q⟩ := h
    exact ⟨a, xs, r, ⟨l.non _ t.1, t.2⟩, RepL.loosen l ds xs q⟩
theorem RepL.loosen (l : Loosen ow ow') : ∀ (ds : List D) (xs : List V), RepL G H ow ds xs → RepL G H ow' ds xs
  | [], _, h => by rw [RepL] at h ⊢; exact h
  | d :: ds, xs, h => by
    rw [RepL] at h ⊢
    obtain ⟨x, r, e1, q1, q2⟩ := h
    exact ⟨x, r, e1, Rep.loosen l d x q1, RepL.loosen l ds r q2⟩
end
theorem FldsAt.imp {ow ow' : OW} {H H' : Hp} (f : ∀ d v, Rep G H ow d v → Rep G H' ow' d v) : ∀ {l : List (Str × D)} {fs : List (Str × V)}, FldsAt G ow H l fs → FldsAt G ow' H' l fs
  | [], fs, h => h
  | (n, d) :: r, fs, h => by
    obtain ⟨v, q, e, r1, r2⟩ := h
    exact ⟨v, q, e, f d v r1, FldsAt.imp f r2⟩
theorem RepS.loosen (l : Loosen ow ow') {i : Nat} {sv : Sv} {v : V} (h : RepS G ow H i sv v) : RepS G ow' H i sv v := by
  cases sv with
  | v d => exact Rep.loosen l d v h
  | ol ds =>
    obtain ⟨a, xs, r, o, t, q⟩ := h
    exact ⟨a, xs, r, (l.same _ (by rw [o]; rfl)).trans o, t, RepL.loosen l ds xs q⟩
  | od tb ks vs =>
    obtain ⟨a, xs, r, o, t, q⟩ := h
    exact ⟨a, xs, r, (l.same _ (by rw [o]; rfl)).trans o, t, RepL.loosen l vs xs q⟩
theorem TabAt.imp {ow ow' : OW} {H H' : Hp} {a : Addr} {q : Str} (h : TabAt ow H a q) (ha : H' a = H a) (f : ∀ c, ow c = none → H c = some (LamX.CodeO c q) → ow' c = none ∧ H' c = some (LamX.CodeO c q)) : TabAt ow' H' a q := by
  obtain ⟨ps, h1, h2, h3⟩ := h
  refine ⟨ps, ha.trans h1, h2, fun pos cv hc => ?_⟩
  obtain ⟨c, e, n, t⟩ := h3 pos cv hc
  exact ⟨c, e, f c n t⟩
theorem TabAt.some {ow : OW} {H : Hp} {a : Addr} {q : Str} (h : TabAt ow H a q) : (H a).isSome = true := by
  obtain ⟨ps, h1, _⟩ := h
  rw [h1]; rfl
theorem GR.loosen (l : Loosen ow ow') {g : Gst} (h : GR G ow H g) : GR G ow' H g where
  dr := fun a e i => by
    have e' : ow a = some .dr := (l.back a (by rw [e]; rfl) (by rw [e]; rfl)).trans e
    obtain ⟨m, t, b, gs, h1, h2, h3⟩ := h.dr a e' i
    exact ⟨m, t, b, gs, h1, (l.same b (by rw [h2]; rfl)).trans h2, h3⟩
  ob := fun a n e i => by
    have e' : ow a = some (.obj n) := (l.back a (by rw [e]; rfl) (by rw [e]; rfl)).trans e
    obtain ⟨ob, dx, fs, h1, h2, h3⟩ := h.ob a n e' i
    exact ⟨ob, dx, fs, h1, h2, h3.imp fun d v q => Rep.loosen l d v q⟩
  inj := fun a b n e1 e2 i1 i2 => h.inj a b n ((l.back a (by rw [e1]; rfl) (by rw [e1]; rfl)).trans e1) ((l.back b (by rw [e2]; rfl) (by rw [e2]; rfl)).trans e2) i1 i2
  tab := fun p hp => by
    obtain ⟨h1, h2⟩ := h.tab p hp
    exact ⟨(l.same _ (by rw [h1]; rfl)).trans h1, h2.imp rfl fun c n t => ⟨l.non _ n, t⟩⟩
theorem ER.loosen (l : Loosen ow ow') (h : ER G ow H σ s) : ER G ow' H σ s where
  len := h.len
  sl := fun i sv e => by
    obtain ⟨v, h1, h2⟩ := h.sl i sv e
    exact ⟨v, h1, h2.loosen l⟩
  gr := h.gr.loosen l

/-- one address's owner told anew -/
def ow1 (ow : OW) (a : Addr) (o : Option Ow) : OW := fun b => if b = a then o else ow b
theorem ow1_same {a : Addr} {o : Option Ow} : ow1 ow a o a = o := by unfold ow1; rw [if_pos rfl]
theorem ow1_ne {a b : Addr} {o : Option Ow} (h : b ≠ a) : ow1 ow a o b = ow b := by unfold ow1; rw [if_neg h]
theorem ow1_non {a b : Addr} (h : ow b = none) : ow1 ow a none b = none := by
  by_cases q : b = a
  · subst q; exact ow1_same
  · rw [ow1_ne q]; exact h
/-- a thing in flight is let go -/
theorem Loosen.tmp {a : Addr} (h : ow a = some .tmp) : Loosen ow (ow1 ow a none) where
  non := fun b e => by
    by_cases q : b = a
    · subst q; exact ow1_same
    · rw [ow1_ne q]; exact e
  same := fun b e => by
    by_cases q : b = a
    · subst q; rw [h] at e; cases e
    · exact ow1_ne q
  back := fun b e _ => by
    by_cases q : b = a
    · subst q; rw [ow1_same] at e; cases e
    · exact (ow1_ne q).symm
/-- a new thing's owner is told anew: seen from ahead of it -/
theorem Ext.told1 {a : Addr} {o : Option Ow} (e : Ext ow H ow' H') (h : H a = none) : Ext ow H (ow1 ow' a o) H' :=
  ⟨e.keep, e.there, fun b u q => by
    have n : b ≠ a := fun z => by subst z; rw [h] at q; cases q
    rw [ow1_ne n]
    exact e.own b u q⟩
end
end DL
namespace DL
open PySem L2

/-! ### what is seen of a value, whoever owns it -/
def view (s : Sd) : Rv → Option D
  | .v d => some d
  | .ol l => some (.lst l)
  | .od tb ks vs => some (.dic tb ks vs)
  | .al i => match nthO s.e i with
    | some (.v d) => some d
    | some (.ol l) => some (.lst l)
    | some (.od tb ks vs) => some (.dic tb ks vs)
    | none => none
section
variable (G : GT) (H : Hp) (ow : OW)
def RepV : D → V → Prop
  | .lst l, v => ∃ a xs, v = .ref a ∧ H a = some (.lst xs) ∧ RepL G H ow l xs
  | .dic tb ks vs, v => ∃ a xs, v = .ref a ∧ DicAt H a tb ks xs ∧ RepL G H ow vs xs
  | d, v => Rep G H ow d v
end
section
variable {G : GT} {K : PySem.W.Frag} {W : WX} {ow ow' : OW} {H H' H0 : Hp} {σ : L2.St} {s s' : Sd}
theorem Rep.view : ∀ {d : D} {v : V}, Rep G H ow d v → RepV G H ow d v
  | .non, _, h => h
  | .bl _, _, h => h
  | .int _, _, h => h
  | .str _, _, h => h
  | .tup _, _, h => h
  | .lst l, v, h => by
    rw [Rep] at h
    obtain ⟨a, xs, r, ⟨n, t⟩, q⟩ := h
    exact ⟨a, xs, r, t, q⟩
  | .dic tb ks vs, v, h => by
    rw [Rep] at h
    obtain ⟨a, xs, r, n, t, q⟩ := h
    exact ⟨a, xs, r, t, q⟩
  | .exc _ _, _, h => h
  | .obj _, _, h => h
  | .dr, _, h => h
  | .fn _, _, h => h
  | .clo _ _ _ _ _, _, h => h
  | .scr _, _, h => h
  | .lds _, _, h => h
theorem view_ok (E : ER G ow H σ s) {r : Rv} {v : V} (h : RepR G ow H H0 σ r v) {d : D} (e : view s r = some d) : RepV G H ow d v := by
  cases r with
  | v d' => cases e; exact Rep.view h
  | ol l =>
    cases e
    obtain ⟨a, xs, r, _, _, t, q⟩ := h
    exact ⟨a, xs, r, t, q⟩
  | od tb ks vs =>
    cases e
    obtain ⟨a, xs, r, _, _, t, q⟩ := h
    exact ⟨a, xs, r, t, q⟩
  | al i =>
    cases q : nthO s.e i with
    | none => simp only [view, q] at e; cases e
    | some sv =>
      obtain ⟨v', h1, h2⟩ := E.get q
      rw [show σ[i]? = some (some v) from h] at h1
      cases h1
      cases sv with
      | v d' => simp only [view, q] at e; cases e; exact Rep.view h2
      | ol l =>
        simp only [view, q] at e; cases e
        obtain ⟨a, xs, h2, h3, h4, h5⟩ := h2
        exact ⟨a, xs, h2, h4, h5⟩
      | od tb ks vs =>
        simp only [view, q] at e; cases e
        obtain ⟨a, xs, h2, h3, h4, h5⟩ := h2
        exact ⟨a, xs, h2, h4, h5⟩

theorem Ext.of_none (e : Ext ow H ow' H') {a : Addr} {o : HO} (h : H a = some o) (n : ow a = none) : ow' a = none ∧ H' a = some o :=
  ⟨(e.own_keep h (by rw [n]; rfl)).trans n, e.keep _ _ h (by rw [n]; rfl)⟩
theorem Ext.of_tmp (e : Ext ow H ow' H') {a : Addr} {o : HO} (h : H a = some o) (n : ow a = some .tmp) : ow' a = some .tmp ∧ H' a = some o :=
  ⟨(e.own_keep h (by rw [n]; rfl)).trans n, e.keep _ _ h (by rw [n]; rfl)⟩
/-- a value in flight, later -/
theorem RepR.ext {r : Rv} {v : V} (h : RepR G ow H H0 σ r v) (e : Ext ow H ow' H') : RepR G ow' H' H0 σ r v := by
  cases r with
  | v d => exact Rep.ext e d v h
  | ol l =>
    obtain ⟨a, xs, r, n, o, t, q⟩ := h
    obtain ⟨o', t'⟩ := e.of_tmp t o
    exact ⟨a, xs, r, n, o', t', RepL.ext e l xs q⟩
  | od tb ks vs =>
    obtain ⟨a, xs, r, n, o, t, q⟩ := h
    obtain ⟨u, hu⟩ := t.ex
    obtain ⟨o', _⟩ := e.of_tmp hu o
    refine ⟨a, xs, r, n, o', t.same fun w hw => (e.of_tmp hw o).2, RepL.ext e vs xs q⟩
  | al i => exact h
theorem RepR.from {r : Rv} {v : V} {owz ow0 : OW} {Hz : Hp} (e : Ext owz Hz ow0 H0) (h : RepR G ow H H0 σ r v) : RepR G ow H Hz σ r v := by
  cases r with
  | v d => exact h
  | ol l =>
    obtain ⟨a, xs, r, n, o, t, q⟩ := h
    exact ⟨a, xs, r, e.free n, o, t, q⟩
  | od tb ks vs =>
    obtain ⟨a, xs, r, n, o, t, q⟩ := h
    exact ⟨a, xs, r, e.free n, o, t, q⟩
  | al i => exact h

/-! ### a value is let go: nobody owns it any more -/
def settle (r : Rv) (s : Sd) : Option (D × Sd) := match r with
  | .v d => some (d, s)
  | .ol l => some (.lst l, s)
  | .od tb ks vs => some (.dic tb ks vs, s)
  | .al i => match nthO s.e i with
    | some (.v d) => some (d, s)
    | some (.ol l) => some (.lst l, s.put i (.v (.lst l)))
    | some (.od tb ks vs) => some (.dic tb ks vs, s.put i (.v (.dic tb ks vs)))
    | none => none
theorem Loosen.slot {a : Addr} {i : Nat} (h : ow a = some (.slot i)) : ∀ b, ow b = none → ow1 ow a none b = none := fun b e => by
  by_cases q : b = a
  · subst q; exact ow1_same
  · rw [ow1_ne q]; exact e
mutual
/-- owners only taken away -/
theorem Rep.freed {a : Addr} (hl : Ow.isSlot (ow a) = true ∨ ow a = some .tmp) : ∀ (d : D) (v : V), Rep G H ow d v → Rep G H (ow1 ow a none) d v
  | .non, _, h => by rw [Rep] at h ⊢; exact h
  | .bl _, _, h => by rw [Rep] at h ⊢; exact h
  | .int _, _, h => by rw [Rep] at h ⊢; exact h
  | .str _, _, h => by rw [Rep] at h ⊢; exact h
  | .tup ds, v, h => by
    rw [Rep] at h ⊢
    obtain ⟨b, xs, r, ⟨n, t⟩, q⟩ := h
    exact ⟨b, xs, r, ⟨ow1_non n, t⟩, RepL.freed hl ds xs q⟩
  | .lst ds, v, h => by
    rw [Rep] at h ⊢
    obtain ⟨b, xs, r, ⟨n, t⟩, q⟩ := h
    exact ⟨b, xs, r, ⟨ow1_non n, t⟩, RepL.freed hl ds xs q⟩
  | .dic tb ks vs, v, h => by
    rw [Rep] at h ⊢
    obtain ⟨b, xs, r, n, t, q⟩ := h
    exact ⟨b, xs, r, ow1_non n, t, RepL.freed hl vs xs q⟩
  | .exc k d, v, h => by
    rw [Rep] at h ⊢
    obtain ⟨b, x, r, n, t, q⟩ := h
    refine ⟨b, x, r, ow1_non n, ?_, Rep.freed hl d x q⟩
    rcases t with ⟨dx, m, h1, h2, h3⟩ | t
    · exact .inl ⟨dx, m, h1, ow1_non h2, h3⟩
    · exact .inr t
  | .obj n, v, h => by
    rw [Rep] at h ⊢
    obtain ⟨b, r, n', i⟩ := h
    exact ⟨b, r, (ow1_ne (fun z => by subst z; rw [n'] at hl; rcases hl with z | z <;> cases z)).trans n', i⟩
  | .dr, v, h => by
    rw [Rep] at h ⊢
    obtain ⟨b, r, n', i⟩ := h
    exact ⟨b, r, (ow1_ne (fun z => by subst z; rw [n'] at hl; rcases hl with z | z <;> cases z)).trans n', i⟩
  | .fn n, v, h => by rw [Rep] at h ⊢; exact h
  | .clo f c q ds vs, v, h => by
    rw [Rep] at h ⊢
    obtain ⟨r, n, t, p⟩ := h
    exact ⟨r, ow1_non n, t, RepL.freed hl ds vs p⟩
  | .scr n, v, h => by
    rw [Rep] at h ⊢
    obtain ⟨b, r, i⟩ := h
    exact ⟨b, r, i.imp (fun z => ⟨ow1_non z.1, z.2⟩) id⟩
  | .lds ds, v, h => by
    rw [Rep] at h ⊢
    obtain ⟨b, xs, r, ⟨n, t⟩, q⟩ := h
    exact ⟨b, xs, r, ⟨ow1_non n, t⟩, RepL.freed hl ds xs q⟩
theorem RepL.freed {a : Addr} (hl : Ow.isSlot (ow a) = true ∨ ow a = some .tmp) : ∀ (ds : List D) (xs : List V), RepL G H ow ds xs → RepL G H (ow1 ow a none) ds xs
  | [], _, h => by rw [RepL] at h ⊢; exact h
  | d :: ds, xs, h => by
    rw [RepL] at h ⊢
    obtain ⟨x, r, e1, q1, q2⟩ := h
    exact ⟨x, r, e1, Rep.freed hl d x q1, RepL.freed hl ds r q2⟩
end
end
end DL
namespace DL
open PySem L2
section
variable {G : GT} {K : PySem.W.Frag} {W : WX} {ow ow' owz : OW} {H H' H0 Hz : Hp} {σ : L2.St} {s s' : Sd}
theorem ow1_of {a b : Addr} {o : Option Ow} {w : Ow} (h : ow1 ow a o b = some w) (n : o ≠ some w) : ow b = some w ∧ b ≠ a := by
  by_cases q : b = a
  · subst q; rw [ow1_same] at h; exact absurd h n
  · rw [ow1_ne q] at h; exact ⟨h, q⟩
theorem GR.freed {a : Addr} (hl : Ow.isSlot (ow a) = true ∨ ow a = some .tmp) {g : Gst} (h : GR G ow H g) : GR G (ow1 ow a none) H g where
  dr := fun b e i => by
    obtain ⟨e', _⟩ := ow1_of e (by intro z; cases z)
    obtain ⟨m, t, c, gs, h1, h2, h3⟩ := h.dr b e' i
    exact ⟨m, t, c, gs, h1, (ow1_ne fun z => by subst z; rw [h2] at hl; rcases hl with z | z <;> cases z).trans h2, h3⟩
  ob := fun b n e i => by
    obtain ⟨e', _⟩ := ow1_of e (by intro z; cases z)
    obtain ⟨ob, dx, fs, h1, h2, h3⟩ := h.ob b n e' i
    exact ⟨ob, dx, fs, h1, h2, h3.imp fun d v q => Rep.freed hl d v q⟩
  inj := fun b c n e1 e2 i1 i2 => h.inj b c n (ow1_of e1 (by intro z; cases z)).1 (ow1_of e2 (by intro z; cases z)).1 i1 i2
  tab := fun p hp => by
    obtain ⟨h1, h2⟩ := h.tab p hp
    exact ⟨(ow1_ne fun z => by subst z; rw [h1] at hl; rcases hl with z | z <;> cases z).trans h1, h2.imp rfl fun c n t => ⟨ow1_non n, t⟩⟩
theorem RepS.freed {a : Addr} (hl : Ow.isSlot (ow a) = true ∨ ow a = some .tmp) {i : Nat} (hn : ow a ≠ some (.slot i)) {sv : Sv} {v : V} (h : RepS G ow H i sv v) : RepS G (ow1 ow a none) H i sv v := by
  cases sv with
  | v d => exact Rep.freed hl d v h
  | ol ds =>
    obtain ⟨b, xs, r, o, t, q⟩ := h
    exact ⟨b, xs, r, (ow1_ne fun z => by subst z; exact hn o).trans o, t, RepL.freed hl ds xs q⟩
  | od tb ks vs =>
    obtain ⟨b, xs, r, o, t, q⟩ := h
    exact ⟨b, xs, r, (ow1_ne fun z => by subst z; exact hn o).trans o, t, RepL.freed hl vs xs q⟩
theorem ER.freed_tmp {a : Addr} (hl : ow a = some .tmp) (E : ER G ow H σ s) : ER G (ow1 ow a none) H σ s where
  len := E.len
  sl := fun i sv e => by
    obtain ⟨v, h1, h2⟩ := E.sl i sv e
    exact ⟨v, h1, h2.freed (.inr hl) (by rw [hl]; intro z; cases z)⟩
  gr := E.gr.freed (.inr hl)
theorem setN_len {α : Type} (l : List (Option α)) (i : Nat) (a : α) : (setN l i a).length = l.length := by rw [setN_eq, List.length_set]
theorem setN_get {α : Type} {l : List (Option α)} {i j : Nat} {a b : α} (h : (setN l i a)[j]? = some (some b)) : (j = i ∧ b = a) ∨ (j ≠ i ∧ l[j]? = some (some b)) := by
  rw [setN_eq] at h
  by_cases q : i = j
  · subst q
    by_cases hl : i < l.length
    · rw [List.getElem?_set_self hl] at h
      simp only [Option.some.injEq] at h
      exact .inl ⟨rfl, h.symm⟩
    · rw [List.getElem?_eq_none (by simpa using hl)] at h; cases h
  · rw [List.getElem?_set_ne q] at h
    exact .inr ⟨fun z => q z.symm, h⟩
/-- a slot's own thing is let go -/
theorem ER.freed_slot {a : Addr} {i : Nat} (hl : ow a = some (.slot i)) (E : ER G ow H σ s) {v : V} (hv : σ[i]? = some (some v)) {d : D} (hd : Rep G H (ow1 ow a none) d v) : ER G (ow1 ow a none) H σ (s.put i (.v d)) where
  len := by rw [E.len]; exact (setN_len _ _ _).symm
  sl := fun j sv e => by
    rcases setN_get e with ⟨rfl, rfl⟩ | ⟨hj, e⟩
    · exact ⟨v, hv, hd⟩
    · obtain ⟨v', h1, h2⟩ := E.sl j sv e
      exact ⟨v', h1, h2.freed (.inl (by rw [hl]; rfl)) (by rw [hl]; intro z; cases z; exact hj rfl)⟩
  gr := E.gr.freed (.inl (by rw [hl]; rfl))
theorem Ext.freed_slot {a : Addr} (e : Ext owz Hz ow H) (hl : Ow.isSlot (ow a) = true) : Ext owz Hz (ow1 ow a none) H where
  keep := e.keep
  there := e.there
  own := fun b o h => by
    rcases e.own b o h with q | ⟨q1, q2⟩
    · by_cases z : b = a
      · subst z; exact .inr ⟨by rw [← q]; exact hl, ow1_same⟩
      · rw [ow1_ne z]; exact .inl q
    · refine .inr ⟨q1, ?_⟩
      by_cases z : b = a
      · subst z; exact ow1_same
      · rw [ow1_ne z]; exact q2
theorem settle_ok (E : ER G ow H σ s) (e0 : Ext owz Hz ow H) {r : Rv} {v : V} (h : RepR G ow H Hz σ r v) {d : D} (q : settle r s = some (d, s')) :
    ∃ ow', Ext owz Hz ow' H ∧ ER G ow' H σ s' ∧ Rep G H ow' d v ∧ ∀ d v, Rep G H ow d v → Rep G H ow' d v := by
  cases r with
  | v d' =>
    cases q
    exact ⟨ow, e0, E, h, fun _ _ z => z⟩
  | ol l =>
    cases q
    obtain ⟨a, xs, r, n, o, t, q⟩ := h
    refine ⟨ow1 ow a none, e0.told1 n, E.freed_tmp o, ?_, fun d v z => Rep.freed (.inr o) d v z⟩
    rw [Rep]
    exact ⟨a, xs, r, ⟨ow1_same, t⟩, RepL.freed (.inr o) l xs q⟩
  | od tb ks vs =>
    cases q
    obtain ⟨a, xs, r, n, o, t, q⟩ := h
    refine ⟨ow1 ow a none, e0.told1 n, E.freed_tmp o, ?_, fun d v z => Rep.freed (.inr o) d v z⟩
    rw [Rep]
    exact ⟨a, xs, r, ow1_same, t, RepL.freed (.inr o) vs xs q⟩
  | al i =>
    cases z : nthO s.e i with
    | none => simp only [settle, z] at q; cases q
    | some sv =>
      obtain ⟨v', h1, h2⟩ := E.get z
      rw [show σ[i]? = some (some v) from h] at h1
      cases h1
      cases sv with
      | v d' =>
        simp only [settle, z] at q; cases q
        exact ⟨ow, e0, E, h2, fun _ _ z => z⟩
      | ol l =>
        simp only [settle, z] at q; cases q
        obtain ⟨a, xs, r, o, t, q⟩ := h2
        have hs : Ow.isSlot (ow a) = true := by rw [o]; rfl
        have hd : Rep G H (ow1 ow a none) (.lst l) v := by
          rw [Rep]; exact ⟨a, xs, r, ⟨ow1_same, t⟩, RepL.freed (.inl hs) l xs q⟩
        exact ⟨ow1 ow a none, e0.freed_slot hs, E.freed_slot o h hd, hd, fun d v z => Rep.freed (.inl hs) d v z⟩
      | od tb ks vs =>
        simp only [settle, z] at q; cases q
        obtain ⟨a, xs, r, o, t, q⟩ := h2
        have hs : Ow.isSlot (ow a) = true := by rw [o]; rfl
        have hd : Rep G H (ow1 ow a none) (.dic tb ks vs) v := by
          rw [Rep]; exact ⟨a, xs, r, ow1_same, t, RepL.freed (.inl hs) vs xs q⟩
        exact ⟨ow1 ow a none, e0.freed_slot hs, E.freed_slot o h hd, hd, fun d v z => Rep.freed (.inl hs) d v z⟩
theorem RepL.imp (f : ∀ d v, Rep G H ow d v → Rep G H' ow' d v) : ∀ (l : List D) (xs : List V), RepL G H ow l xs → RepL G H' ow' l xs
  | [], _, h => by rw [RepL] at h ⊢; exact h
  | d :: l, xs, h => by
    rw [RepL] at h ⊢
    obtain ⟨x, r, e1, q1, q2⟩ := h
    exact ⟨x, r, e1, f d x q1, RepL.imp f l r q2⟩
theorem RepL.length : ∀ {l : List D} {xs : List V}, RepL G H ow l xs → xs.length = l.length
  | [], _, h => by rw [RepL] at h; subst h; rfl
  | d :: l, xs, h => by
    rw [RepL] at h
    obtain ⟨x, r, rfl, _, q2⟩ := h
    simp [RepL.length q2]
theorem RepL.append : ∀ {l m : List D} {xs ys : List V}, RepL G H ow l xs → RepL G H ow m ys → RepL G H ow (l ++ m) (xs ++ ys)
  | [], _, _, _, h, h' => by rw [RepL] at h; subst h; exact h'
  | d :: l, m, xs, ys, h, h' => by
    rw [RepL] at h
    obtain ⟨x, r, rfl, q1, q2⟩ := h
    rw [List.cons_append, List.cons_append, RepL]
    exact ⟨x, r ++ ys, rfl, q1, RepL.append q2 h'⟩
theorem RepL.nil : RepL G H ow [] [] := by rw [RepL]
theorem RepL.cons {d : D} {l : List D} {x : V} {xs : List V} (h : Rep G H ow d x) (q : RepL G H ow l xs) : RepL G H ow (d :: l) (x :: xs) := by rw [RepL]; exact ⟨x, xs, rfl, h, q⟩
theorem RepL.get : ∀ {l : List D} {xs : List V} {i : Nat} {d : D}, RepL G H ow l xs → l[i]? = some d → ∃ x, xs[i]? = some x ∧ Rep G H ow d x
  | [], _, _, _, _, e => by simp at e
  | d :: l, xs, 0, _, h, e => by
    rw [RepL] at h
    obtain ⟨x, r, rfl, q1, q2⟩ := h
    simp at e; subst e
    exact ⟨x, rfl, q1⟩
  | d :: l, xs, i + 1, _, h, e => by
    rw [RepL] at h
    obtain ⟨x, r, rfl, q1, q2⟩ := h
    obtain ⟨y, h1, h2⟩ := RepL.get (i := i) q2 (by simpa using e)
    exact ⟨y, by simpa using h1, h2⟩
theorem RepL.drop : ∀ {l : List D} {xs : List V} (n : Nat), RepL G H ow l xs → RepL G H ow (l.drop n) (xs.drop n)
  | _, _, 0, h => h
  | [], _, n + 1, h => by rw [RepL] at h; subst h; exact RepL.nil
  | d :: l, xs, n + 1, h => by
    rw [RepL] at h
    obtain ⟨x, r, rfl, q1, q2⟩ := h
    exact RepL.drop n q2
theorem RepL.take : ∀ {l : List D} {xs : List V} (n : Nat), RepL G H ow l xs → RepL G H ow (l.take n) (xs.take n)
  | _, _, 0, h => RepL.nil
  | [], _, n + 1, h => by rw [RepL] at h; subst h; exact RepL.nil
  | d :: l, xs, n + 1, h => by
    rw [RepL] at h
    obtain ⟨x, r, rfl, q1, q2⟩ := h
    exact RepL.cons q1 (RepL.take n q2)

/-- a new object that nobody else knows -/
theorem Ext.new {p : Addr} {o : HO} {w : Option Ow} (h : H p = none) : Ext ow H (ow1 ow p w) (upd H p o) where
  keep := fun b u e _ => by rw [upd_ne (ne_of_none e h)]; exact e
  there := fun b u e => ⟨u, by rw [upd_ne (ne_of_none e h)]; exact e⟩
  own := fun b u e => .inl (ow1_ne (ne_of_none e h))
theorem RepS.ext_new {p : Addr} {o : HO} {w : Option Ow} (h : H p = none) {i : Nat} {sv : Sv} {v : V} (q : RepS G ow H i sv v) : RepS G (ow1 ow p w) (upd H p o) i sv v := by
  have e : Ext ow H (ow1 ow p w) (upd H p o) := Ext.new h
  cases sv with
  | v d => exact Rep.ext e d v q
  | ol l =>
    obtain ⟨a, xs, r, o', t, q⟩ := q
    exact ⟨a, xs, r, (ow1_ne (ne_of_none t h)).trans o', by rw [upd_ne (ne_of_none t h)]; exact t, RepL.ext e l xs q⟩
  | od tb ks vs =>
    obtain ⟨a, xs, r, o', t, q⟩ := q
    obtain ⟨u, hu⟩ := t.ex
    exact ⟨a, xs, r, (ow1_ne (ne_of_none hu h)).trans o', t.same fun z hz => by rw [upd_ne (ne_of_none hz h)]; exact hz, RepL.ext e vs xs q⟩
def Ow.plain : Option Ow → Bool
  | some (.obj _) => false
  | some .dr => false
  | _ => true
theorem GR.ext_new {p : Addr} {o : HO} {w : Option Ow} (h : H p = none) (hw : Ow.plain w = true) {g : Gst} (q : GR G ow H g) : GR G (ow1 ow p w) (upd H p o) g := by
  have e : Ext ow H (ow1 ow p w) (upd H p o) := Ext.new h
  have back : ∀ a u, ow1 ow p w a = some u → Ow.plain (some u) = false → (upd H p o a).isSome = true → ow a = some u ∧ (H a).isSome = true ∧ a ≠ p := fun a u e1 e2 i => by
    obtain ⟨e3, n⟩ := ow1_of e1 (by intro z; rw [z, e2] at hw; cases hw)
    rw [upd_ne n] at i
    exact ⟨e3, i, n⟩
  refine ⟨fun a e1 i => ?_, fun a n e1 i => ?_, fun a b n e1 e2 i1 i2 => ?_, fun p' hp' => ?_⟩
  · obtain ⟨e3, i', n⟩ := back a _ e1 rfl i
    obtain ⟨m, t, c, gs, h1, h2, h3, h4⟩ := q.dr a e3 i'
    exact ⟨m, t, c, gs, by rw [upd_ne n]; exact h1, (ow1_ne (ne_of_none h3 h)).trans h2, by rw [upd_ne (ne_of_none h3 h)]; exact h3, h4⟩
  · obtain ⟨e3, i', n⟩ := back a _ e1 rfl i
    obtain ⟨ob, dx, fs, h1, h2, h3⟩ := q.ob a _ e3 i'
    exact ⟨ob, dx, fs, h1, by rw [upd_ne n]; exact h2, h3.imp fun d v z => Rep.ext e d v z⟩
  · obtain ⟨e3, i1', _⟩ := back a _ e1 rfl i1
    obtain ⟨e4, i2', _⟩ := back b _ e2 rfl i2
    exact q.inj a b n e3 e4 i1' i2'
  · obtain ⟨h1, h2⟩ := q.tab p' hp'
    have n : p'.1 ≠ p := fun z => by have := h2.some; rw [z, h] at this; cases this
    exact ⟨(ow1_ne n).trans h1, h2.imp (upd_ne n) fun c e3 t => by
      have nc := ne_of_none t h
      exact ⟨(ow1_ne nc).trans e3, by rw [upd_ne nc]; exact t⟩⟩
theorem ER.ext_new {p : Addr} {o : HO} {w : Option Ow} (h : H p = none) (hw : Ow.plain w = true) (E : ER G ow H σ s) : ER G (ow1 ow p w) (upd H p o) σ s where
  len := E.len
  sl := fun i sv e => by
    obtain ⟨v, h1, h2⟩ := E.sl i sv e
    exact ⟨v, h1, h2.ext_new h⟩
  gr := E.gr.ext_new h hw
theorem exW.from {Ed : DX} (e : Ext owz Hz ow H) (h : exW G W owz Hz σ Ed) : exW G W ow H σ Ed :=
  fun x s' q c d H' ow' e' E' r => h x s' q c d H' ow' (e.trans e') E' r
end
end DL
namespace DL
open PySem L2

/-! ### what a value's maker has to show -/
def Fin (G : GT) (σ : L2.St) (s : Sd) (ow : OW) (H H0 : Hp) (z : Rv) (Q : VK) : Prop :=
  ∀ v ow' H', Ext ow H ow' H' → ER G ow' H' σ s → RepR G ow' H' H0 σ z v → Q v H'
section
variable {G : GT} {K : PySem.W.Frag} {W : WX} {ow ow' ow0 : OW} {H H' H0 : Hp} {σ : L2.St} {s s' : Sd} {Q : VK}
theorem Fin.pure (E : ER G ow H σ s) {d : D} {v : V} (F : Fin G σ s ow H H0 (.v d) Q) (h : Rep G H ow d v) : Q v H := F v ow H (Ext.refl _ _) E h
theorem Fin.int (E : ER G ow H σ s) {i : Int} (F : Fin G σ s ow H H0 (.v (.int i)) Q) : Q (.int i) H := F.pure E (by rw [Rep])
theorem Fin.bl (E : ER G ow H σ s) {b : Bool} (F : Fin G σ s ow H H0 (.v (.bl b)) Q) : Q (.bl b) H := F.pure E (by rw [Rep])
theorem Fin.str (E : ER G ow H σ s) {b : Str} (F : Fin G σ s ow H H0 (.v (.str b)) Q) : Q (.str b) H := F.pure E (by rw [Rep])
theorem Rep.tup_new {p : Addr} {xs : List V} {l : List D} {w : Option Ow} (hp : H p = none) (h : RepL G H ow l xs) : Rep G (upd H p (.tup xs)) (ow1 ow p none) (.tup l) (.ref p) := by
  rw [Rep]
  exact ⟨p, xs, rfl, ⟨ow1_same, upd_same⟩, RepL.ext (Ext.new hp) l xs h⟩
theorem Fin.tup (E : ER G ow H σ s) {p : Addr} {xs : List V} {l : List D} (F : Fin G σ s ow H H0 (.v (.tup l)) Q) (hp : H p = none) (h : RepL G H ow l xs) : Q (.ref p) (upd H p (.tup xs)) :=
  F _ (ow1 ow p none) _ (Ext.new hp) (E.ext_new hp rfl) (Rep.tup_new (w := none) hp h)
theorem Rep.lds_new {p : Addr} {o : Obj} {xs : List V} {l : List D} (hp : H p = none) (od : o.dict = none) (h : RepL G H ow l xs) : Rep G (upd H p (.frz o (.tup xs))) (ow1 ow p none) (.lds l) (.ref p) := by
  rw [Rep]
  exact ⟨p, xs, rfl, ⟨ow1_same, o, od, upd_same⟩, RepL.ext (Ext.new hp) l xs h⟩
theorem Fin.lds (E : ER G ow H σ s) {p : Addr} {o : Obj} {xs : List V} {l : List D} (F : Fin G σ s ow H H0 (.v (.lds l)) Q) (hp : H p = none) (od : o.dict = none) (h : RepL G H ow l xs) : Q (.ref p) (upd H p (.frz o (.tup xs))) :=
  F _ (ow1 ow p none) _ (Ext.new hp) (E.ext_new hp rfl) (Rep.lds_new hp od h)
theorem Fin.lst (E : ER G ow H σ s) (e0 : Ext ow0 H0 ow H) {p : Addr} {xs : List V} {l : List D} (F : Fin G σ s ow H H0 (.ol l) Q) (hp : H p = none) (h : RepL G H ow l xs) : Q (.ref p) (upd H p (.lst xs)) :=
  F _ (ow1 ow p (some .tmp)) _ (Ext.new hp) (E.ext_new hp rfl) ⟨p, xs, rfl, e0.free hp, ow1_same, upd_same, RepL.ext (Ext.new hp) l xs h⟩
end

/-! ### names and constants -/
def dVar (i : Nat) : DE := fun s Q _ => match nthO s.e i with
  | some (.v d) => Q (.v d) s
  | some _ => Q (.al i) s
  | none => False
def dC (d : D) : DE := fun s Q _ => Q (.v d) s
section
variable {G : GT} {X : Cx} {W : WX} {e : Expr} {pos : Pos}
theorem dvar_ok {i : Nat} {σ : L2.St} {H : Hp} {Q : VK} (h : liftE G W (dVar i) σ H Q) : tVar i σ H Q := by
  obtain ⟨ow, s, Qd, Ed, E, t, hQ, hE⟩ := h
  cases z : nthO s.e i with
  | none => simp only [dVar, z] at t
  | some sv =>
    obtain ⟨v, h1, h2⟩ := E.get z
    refine ⟨v, h1, ?_⟩
    cases sv with
    | v d => simp only [dVar, z] at t; exact hQ _ _ t v H ow (Ext.refl _ _) E h2
    | ol l => simp only [dVar, z] at t; exact hQ _ _ t v H ow (Ext.refl _ _) E h1
    | od tb ks vs => simp only [dVar, z] at t; exact hQ _ _ t v H ow (Ext.refl _ _) E h1
theorem pd_var (i : Nat) {x : Str} (hN : X.N[i]? = some x := by rfl) (hv : Vis X.env.scope x := by first | exact Or.inl rfl | exact Or.inr (Or.inl rfl) | exact Or.inr (Or.inr rfl))
    (hd : (x == ("__debug__" : Str)) = false := by decide) (hcd : (x == ("__classdict__" : Str)) = false := by decide) : PD G X W (.Name x pos) (dVar i) :=
  ⟨PE.wk (pe_var hN hv hd hcd) fun σ H Q _ h => dvar_ok h⟩
theorem dc_ok {d : D} {v : V} {σ : L2.St} {H : Hp} {Q : VK} (hr : ∀ H ow, Rep G H ow d v) (h : liftE G W (dC d) σ H Q) : tC v σ H Q := by
  obtain ⟨ow, s, Qd, Ed, E, t, hQ, hE⟩ := h
  exact hQ _ _ t v H ow (Ext.refl _ _) E (hr _ _)
theorem pd_int {i j} : PD G X W (.Constant (.int i) j pos) (dC (.int i)) := ⟨PE.wk pe_int fun σ H Q _ h => dc_ok (fun _ _ => by rw [Rep]) h⟩
theorem pd_bl {b j} : PD G X W (.Constant (.bool b) j pos) (dC (.bl b)) := ⟨PE.wk pe_bl fun σ H Q _ h => dc_ok (fun _ _ => by rw [Rep]) h⟩
theorem pd_non {j} : PD G X W (.Constant .none j pos) (dC .non) := ⟨PE.wk pe_non fun σ H Q _ h => dc_ok (fun _ _ => by rw [Rep]) h⟩
theorem pd_str {x j} : PD G X W (.Constant (.str x) j pos) (dC (.str x)) := ⟨PE.wk pe_str fun σ H Q _ h => dc_ok (fun _ _ => by rw [Rep]) h⟩
/-- a constant of the module: MOST = 3 -/
structure GlC (G : GT) (mg : Str → Option Value) (x : Str) (d : D) : Prop where
  ex : ∃ u v, mg x = some u ∧ RelV v u ∧ ∀ H ow, Rep G H ow d v
theorem pd_glob {x : Str} {d : D} (h : GlC G X.mg x d) (hg : Gl X x) (hd : (x == ("__debug__" : Str)) = false := by decide) : PD G X W (.Name x pos) (dC d) := by
  obtain ⟨u, v, hm, r, hr⟩ := h.ex
  exact ⟨PE.wk (pe_glob hg hm r hd) fun σ H Q _ h => dc_ok hr h⟩
end

/-! ### arguments, displays -/
def dNil : DA := fun s Q _ => Q [] s
def dCons (te : DE) (t : DA) : DA := fun s Q E => te s (fun r s1 => bindO (settle r s1) fun p => t p.2 (fun ds s3 => Q (p.1 :: ds) s3) E) E
/-- a condition that evaluates -/
def guardB (b : Bool) (k : Prop) : Prop := match b with
  | true => k
  | false => False
theorem guardB_and {b : Bool} {k : Prop} (h : guardB b k) : b = true ∧ k := by
  cases b with
  | true => exact ⟨rfl, h⟩
  | false => exact h.elim
theorem guardB_of {b : Bool} {k : Prop} (h : b = true) (q : k) : guardB b k := by subst h; exact q
def fewL {α : Type} : List α → Nat → Bool
  | [], _ => true
  | _ :: _, 0 => false
  | _ :: l, n + 1 => fewL l n
theorem fewL_le {α : Type} : ∀ {l : List α} {n : Nat}, fewL l n = true → l.length ≤ n
  | [], _, _ => Nat.zero_le _
  | _ :: _, 0, h => by cases h
  | _ :: l, n + 1, h => Nat.succ_le_succ (fewL_le (l := l) h)
def dTup (t : DA) : DE := fun s Q E => t s (fun ds s1 => guardB (fewL ds 100) (Q (.v (.tup ds)) s1)) E
def dLst (t : DA) : DE := fun s Q E => t s (fun ds s1 => guardB (fewL ds 100) (Q (.ol ds) s1)) E
theorem sizeLine_100 {n : Nat} (h : n ≤ 100) : n ≤ sizeLine := Nat.le_trans h (by decide)
section
variable {G : GT} {X : Cx} {W : WX} {e : Expr} {es : List Expr} {pos : Pos} {te : DE} {t : DA}
theorem pda_nil : PDA G X W [] dNil := ⟨PA.wk pa_nil fun σ H Q _ h => by
  obtain ⟨ow, s, Qd, Ed, E, t, hQ, hE⟩ := h
  exact hQ _ _ t [] H ow (Ext.refl _ _) E RepL.nil⟩
theorem dcons_ok {σ : L2.St} {H : Hp} {Q : List V → Hp → Prop} (h : liftA G W (dCons te t) σ H Q) : tCons (liftE G W te) (liftA G W t) σ H Q := by
  obtain ⟨ow, s, Qd, Ed, E, t, hQ, hE⟩ := h
  refine ⟨ow, s, _, Ed, E, t, fun r s1 q1 v H1 ow1 e1 E1 R1 => ?_, hE⟩
  obtain ⟨⟨d, s2⟩, hs, q2⟩ := bindO_some q1
  obtain ⟨ow2, e2, E2, R2, _⟩ := settle_ok E1 e1 R1 hs
  refine ⟨ow2, s2, _, Ed, E2, q2, fun ds s3 q3 vs H3 ow3 e3 E3 R3 => ?_, hE.from e2⟩
  exact hQ _ _ q3 _ H3 ow3 (e2.trans e3) E3 (RepL.cons (Rep.ext e3 d v R2) R3)
theorem pda_cons (ha : PD G X W e te) (hr : PDA G X W es t) (hs : starEach (e :: es) X.env = (false, eval e X.env) :: starEach es X.env := by rfl) : PDA G X W (e :: es) (dCons te t) :=
  ⟨PA.wk (pa_cons ha.pe hr.pa hs) fun σ H Q _ h => dcons_ok h⟩
theorem pd_tup {x1} (h : PDA G X W es t) : PD G X W (.Tuple es x1 pos) (dTup t) := ⟨PE.wk (pe_tup h.pa) fun σ H Q _ h => by
  obtain ⟨ow, s0, Qd, Ed, E, t', hQ, hE⟩ := h
  refine ⟨ow, s0, _, Ed, E, t', fun ds s1 q1 vs H1 ow1 e1 E1 R1 => ?_, hE⟩
  obtain ⟨g, q1⟩ := guardB_and q1
  refine ⟨by rw [RepL.length R1]; exact sizeLine_100 (fewL_le g), fun p hp => ?_⟩
  exact hQ _ _ q1 _ _ _ (e1.trans (Ext.new (w := none) hp)) (E1.ext_new hp rfl) (Rep.tup_new (w := none) hp R1)⟩
/-- a tuple whose object is known -/
def tTupK (t : TA) : TE := fun σ H Q => t σ H fun xs H1 => xs.length ≤ sizeLine ∧ ∀ (p : Addr) (o : Obj), H1 p = none → o.dict = none → Q (.ref p) (upd H1 p (.frz o (.tup xs)))
theorem pe_tupK {x1} {t : TA} (h : PA X es t) : PE X (.Tuple es x1 pos) (tTupK t) := by
  refine ⟨fun pins s σ H Q I hq => ?_⟩
  refine wpAny_Tuple_spliced (thn (h.run pos pins s σ H _ I hq) fun us s1 ⟨xs, H1, I1, r, z, q⟩ => ⟨by rw [← r.length]; exact z, ?_⟩)
  have hf : H1 s1.heap.objs.size = none := I1.hok.fresh (Nat.le_refl _)
  refine ⟨.ref s1.heap.objs.size, _, I1.laid (t' := s1.toks) (o := .frz { cls := .type "tuple", data := .seq us.toArray } (.tup xs)) (fun b u e => Heap.get?_push_of_some _ e) (Nat.le_refl _) ?_, rfl, q _ _ hf rfl⟩
  exact ⟨Heap.get?_push_size _ rfl, z, us, r, ⟨_, Heap.get?_push_size _ rfl, rfl, _, rfl⟩⟩
def dTupK (t : DA) : DE := fun s Q E => t s (fun ds s1 => guardB (fewL ds 100) (Q (.v (.lds ds)) s1)) E
theorem pd_tupD {x1} (h : PDA G X W es t) : PD G X W (.Tuple es x1 pos) (dTupK t) := ⟨PE.wk (pe_tupK h.pa) fun σ H Q _ h => by
  obtain ⟨ow, s0, Qd, Ed, E, t', hQ, hE⟩ := h
  refine ⟨ow, s0, _, Ed, E, t', fun ds s1 q1 vs H1 ow1 e1 E1 R1 => ?_, hE⟩
  obtain ⟨g, q1⟩ := guardB_and q1
  refine ⟨by rw [RepL.length R1]; exact sizeLine_100 (fewL_le g), fun p o hp od => ?_⟩
  exact hQ _ _ q1 _ _ _ (e1.trans (Ext.new (w := none) hp)) (E1.ext_new hp rfl) (Rep.lds_new hp od R1)⟩
theorem pd_lst (h : PDA G X W es t) : PD G X W (.List es pos) (dLst t) := ⟨PE.wk (pe_lst h.pa) fun σ H Q _ h => by
  obtain ⟨ow, s0, Qd, Ed, E, t', hQ, hE⟩ := h
  refine ⟨ow, s0, _, Ed, E, t', fun ds s1 q1 vs H1 ow1 e1 E1 R1 => ?_, hE⟩
  obtain ⟨g, q1⟩ := guardB_and q1
  refine ⟨by rw [RepL.length R1]; exact sizeLine_100 (fewL_le g), fun p hp => ?_⟩
  exact hQ _ _ q1 _ _ _ (e1.trans (Ext.new (w := some .tmp) hp)) (E1.ext_new hp rfl) ⟨p, vs, rfl, e1.free hp, ow1_same, upd_same, RepL.ext (Ext.new hp) ds vs R1⟩⟩
end
end DL
namespace DL
open PySem L2

/-! ### two values make one -/
abbrev DOp := D → D → Option Rv
def dOp (g : DOp) (ta tb : DE) : DE := fun s Q E => ta s (fun r1 s1 => tb s1 (fun r2 s2 => bindO (view s2 r1) fun d1 => bindO (view s2 r2) fun d2 => bindO (g d1 d2) fun z => Q z s2) E) E
def dUn (g : D → Option Rv) (ta : DE) : DE := fun s Q E => ta s (fun r1 s1 => bindO (view s1 r1) fun d1 => bindO (g d1) fun z => Q z s1) E
/-- a rule by values does what g does -/
def OpD (G : GT) (r : R2) (g : DOp) : Prop :=
  ∀ {σ : L2.St} {s : Sd} {ow ow0 : OW} {H H0 : Hp} {x y : V} {d1 d2 : D} {z : Rv} {Q : VK}, Fits H → ER G ow H σ s → Ext ow0 H0 ow H → RepV G H ow d1 x → RepV G H ow d2 y → g d1 d2 = some z → Fin G σ s ow H H0 z Q → r x y H Q
def UnD (G : GT) (r : V → Hp → VK → Prop) (g : D → Option Rv) : Prop :=
  ∀ {σ : L2.St} {s : Sd} {ow ow0 : OW} {H H0 : Hp} {x : V} {d1 : D} {z : Rv} {Q : VK}, Fits H → ER G ow H σ s → Ext ow0 H0 ow H → RepV G H ow d1 x → g d1 = some z → Fin G σ s ow H H0 z Q → r x H Q
theorem OpR.fit {X : Cx} {f : Value → Value → Sem Value} {r : R2} (h : OpR X f r) : OpR X f (fun x y H Q => Fits H → r x y H Q) :=
  fun pins s σ H x y v u Q I rx ry q => h pins s σ H x y v u Q I rx ry (q (fits_of I))
theorem UnR.fit {X : Cx} {f : Value → Sem Value} {r : V → Hp → VK → Prop} (h : UnR X f r) : UnR X f (fun x H Q => Fits H → r x H Q) :=
  fun pins s σ H x v Q I rx q => h pins s σ H x v Q I rx (q (fits_of I))
theorem IxR.fit {X : Cx} {r : R2} (h : IxR X r) : IxR X (fun x y H Q => Fits H → r x y H Q) :=
  fun value slice pins s σ H x y v u Q I rx ry q => h value slice pins s σ H x y v u Q I rx ry (q (fits_of I))
section
variable {G : GT} {X : Cx} {W : WX} {a b c e : Expr} {es : List Expr} {pos : Pos} {ta tb tc : DE} {g g' : DOp} {r r' : R2} {K : PySem.W.Frag}
theorem dop_ok (hf : OpD G r g) {σ : L2.St} {H : Hp} {Q : VK} (h : liftE G W (dOp g ta tb) σ H Q) : tOp (fun x y H Q => Fits H → r x y H Q) (liftE G W ta) (liftE G W tb) σ H Q := by
  obtain ⟨ow, s, Qd, Ed, E, t, hQ, hE⟩ := h
  refine ⟨ow, s, _, Ed, E, t, fun r1 s1 q1 v H1 ow1 e1 E1 R1 => ⟨ow1, s1, _, Ed, E1, q1, fun r2 s2 q2 v2 H2 ow2 e2 E2 R2 => ?_, hE.from e1⟩, hE⟩
  obtain ⟨d1, h1, q2⟩ := bindO_some q2
  obtain ⟨d2, h2, q2⟩ := bindO_some q2
  obtain ⟨z, hz, q2⟩ := bindO_some q2
  have R1' := R1.ext e2
  have R2' := R2.from e1
  exact fun ft => hf ft E2 (e1.trans e2) (view_ok E2 R1' h1) (view_ok E2 R2' h2) hz fun v ow' H' e' E' R' => hQ _ _ q2 _ _ _ ((e1.trans e2).trans e') E' R'
theorem pd_op {op : Operator} (hf : OpD G r g) (ho : OpR X (binaryOp op) r) (ha : PD G X W a ta) (hb : PD G X W b tb) : PD G X W (.BinOp a op b pos) (dOp g ta tb) :=
  ⟨PE.wk (pe_op (OpR.fit ho) ha.pe hb.pe) fun σ H Q _ h => dop_ok hf h⟩
theorem pd_cmp {op : CmpOp} (hf : OpD G r g) (ho : OpR X (compareOp op) r) (ha : PD G X W a ta) (hb : PD G X W b tb) (hm : behindInMarks op b = false := by first | exact nobehind _ (by decide) (by decide) | rfl) : PD G X W (.Compare a [op] [b] pos) (dOp g ta tb) :=
  ⟨PE.wk (pe_cmpR (OpR.fit ho) ha.pe hb.pe hm) fun σ H Q _ h => dop_ok hf h⟩
theorem dun_ok {r : V → Hp → VK → Prop} {g : D → Option Rv} (hf : UnD G r g) {σ : L2.St} {H : Hp} {Q : VK} (h : liftE G W (dUn g ta) σ H Q) : tUn (fun x H Q => Fits H → r x H Q) (liftE G W ta) σ H Q := by
  obtain ⟨ow, s, Qd, Ed, E, t, hQ, hE⟩ := h
  refine ⟨ow, s, _, Ed, E, t, fun r1 s1 q1 v H1 ow1 e1 E1 R1 => ?_, hE⟩
  obtain ⟨d1, h1, q1⟩ := bindO_some q1
  obtain ⟨z, hz, q1⟩ := bindO_some q1
  exact fun ft => hf ft E1 e1 (view_ok E1 R1 h1) hz fun v ow' H' e' E' R' => hQ _ _ q1 _ _ _ (e1.trans e') E' R'
theorem pd_un {op : UnaryOp} {r : V → Hp → VK → Prop} {g : D → Option Rv} (hf : UnD G r g) (ho : UnR X (unaryOp op) r) (ha : PD G X W a ta) : PD G X W (.UnaryOp op a pos) (dUn g ta) :=
  ⟨PE.wk (pe_un (UnR.fit ho) ha.pe) fun σ H Q _ h => dun_ok hf h⟩
theorem pd_ix (hf : OpD G r g) (ho : IxR X r) (ha : PD G X W a ta) (hb : PD G X W b tb) (hs : PlainIx b := by exact fun _ _ => rfl) : PD G X W (.Subscript a b pos) (dOp g ta tb) :=
  ⟨PE.wk (pe_ix (IxR.fit ho) ha.pe hb.pe hs) fun σ H Q _ h => dop_ok hf h⟩

/-! ### tests -/
def dB (t : DE) : DT := fun s Q E => t s (fun r s1 => match r with | .v (.bl b) => Q b s1 | _ => False) E
theorem db_ok {σ : L2.St} {H : Hp} {Q : Bool → Hp → Prop} (h : liftT G W (dB ta) σ H Q) : tB (liftE G W ta) σ H Q := by
  obtain ⟨ow, s, Qd, Ed, E, t, hQ, hE⟩ := h
  refine ⟨ow, s, _, Ed, E, t, fun r s1 q1 v H1 ow1 e1 E1 R1 => ?_, hE⟩
  split at q1
  · rename_i b
    have e : v = .bl b := by have := R1; rw [RepR, Rep] at this; exact this
    exact ⟨b, e, hQ _ _ q1 _ _ e1 E1⟩
  · exact q1.elim
theorem pdt_val (h : PD G X W e ta) (he : ∀ whole, isTrue e X.env whole = (do let v ← whole; standAt e.pos; holding [v] (truthy v)) := by intro _; rfl) : PDT G X W e (dB ta) :=
  ⟨PT.wk (pt_val h.pe he) fun σ H Q _ h => db_ok h⟩
theorem pdt_cmp {op : CmpOp} (hf : OpD G r g) (ho : OpR X (compareOp op) r) (ha : PD G X W a ta) (hb : PD G X W b tb) (hm : behindInMarks op b = false := by first | exact nobehind _ (by decide) (by decide) | rfl) : PDT G X W (.Compare a [op] [b] pos) (dB (dOp g ta tb)) :=
  ⟨PT.wk (pt_cmpR (OpR.fit ho) ha.pe hb.pe hm) fun σ H Q _ h => by
    obtain ⟨ow, s, Qd, Ed, E, t, hQ, hE⟩ := h
    refine dop_ok (W := W) hf ⟨ow, s, _, Ed, E, t, fun r s1 q1 v H1 ow1 e1 E1 R1 => ?_, hE⟩
    split at q1
    · rename_i b
      have e : v = .bl b := by have := R1; rw [RepR, Rep] at this; exact this
      exact ⟨b, e, hQ _ _ q1 _ _ e1 E1⟩
    · exact q1.elim⟩
/-- a < b < c -/
def dChain (g g' : DOp) (ta tb tc : DE) : DE := fun s Q E => ta s (fun r1 s1 => tb s1 (fun r2 s2 => bindO (view s2 r1) fun d1 => bindO (view s2 r2) fun d2 => bindO (g d1 d2) fun z => match z with
  | .v (.bl true) => tc s2 (fun r3 s3 => bindO (view s3 r2) fun d2 => bindO (view s3 r3) fun d3 => bindO (g' d2 d3) fun z => Q z s3) E
  | .v (.bl false) => Q (.v (.bl false)) s2
  | _ => False) E) E
theorem dchain_ok (hf : OpD G r g) (hf' : OpD G r' g') {σ : L2.St} {H : Hp} {Q : VK} (h : liftE G W (dChain g g' ta tb tc) σ H Q) :
    tChain (fun x y H Q => Fits H → r x y H Q) (fun x y H Q => Fits H → r' x y H Q) (liftE G W ta) (liftE G W tb) (liftE G W tc) σ H Q := by
  obtain ⟨ow, s, Qd, Ed, E, t, hQ, hE⟩ := h
  refine ⟨ow, s, _, Ed, E, t, fun r1 s1 q1 v H1 ow1 e1 E1 R1 => ⟨ow1, s1, _, Ed, E1, q1, fun r2 s2 q2 v2 H2 ow2 e2 E2 R2 => ?_, hE.from e1⟩, hE⟩
  obtain ⟨d1, h1, q2⟩ := bindO_some q2
  obtain ⟨d2, h2, q2⟩ := bindO_some q2
  obtain ⟨z, hz, q2⟩ := bindO_some q2
  have R1' := R1.ext e2
  have R2' := R2.from e1
  have e12 := e1.trans e2
  refine fun ft => hf ft E2 e12 (view_ok E2 R1' h1) (view_ok E2 R2' h2) hz fun v ow' H' e' E' R' => ?_
  split at q2
  · have e : v = .bl true := by have := R'; rw [RepR, Rep] at this; exact this
    refine ⟨true, e, ?_⟩
    rw [if_pos rfl]
    refine ⟨ow', s2, _, Ed, E', q2, fun r3 s3 q3 v3 H3 ow3 e3 E3 R3 => ?_, hE.from (e12.trans e')⟩
    obtain ⟨d2', h2', q3⟩ := bindO_some q3
    obtain ⟨d3, h3, q3⟩ := bindO_some q3
    obtain ⟨z3, hz3, q3⟩ := bindO_some q3
    exact fun ft3 => hf' ft3 E3 ((e12.trans e').trans e3) (view_ok E3 ((R2'.ext e').ext e3) h2') (view_ok E3 (R3.from (e12.trans e')) h3) hz3 fun v ow4 H4 e4 E4 R4 => hQ _ _ q3 _ _ _ (((e12.trans e').trans e3).trans e4) E4 R4
  · have e : v = .bl false := by have := R'; rw [RepR, Rep] at this; exact this
    refine ⟨false, e, ?_⟩
    rw [if_neg Bool.false_ne_true]
    refine hQ _ _ q2 _ _ _ (e12.trans e') E' (by rw [RepR, Rep])
  · exact q2.elim
theorem pd_chain {op op' : CmpOp} (hf : OpD G r g) (hf' : OpD G r' g') (ho : OpR X (compareOp op) r) (ho' : OpR X (compareOp op') r') (ha : PD G X W a ta) (hb : PD G X W b tb) (hc : PD G X W c tc)
    (hm : lastMarks [op, op'] [b, c] = false := by with_unfolding_all rfl) : PD G X W (.Compare a [op, op'] [b, c] pos) (dChain g g' ta tb tc) :=
  ⟨PE.wk (pe_chain (OpR.fit ho) (OpR.fit ho') ha.pe hb.pe hc.pe hm) fun σ H Q _ h => dchain_ok hf hf' h⟩
theorem pdt_chain {op op' : CmpOp} (hf : OpD G r g) (hf' : OpD G r' g') (ho : OpR X (compareOp op) r) (ho' : OpR X (compareOp op') r') (ha : PD G X W a ta) (hb : PD G X W b tb) (hc : PD G X W c tc)
    (hm : lastMarks [op, op'] [b, c] = false := by with_unfolding_all rfl) : PDT G X W (.Compare a [op, op'] [b, c] pos) (dB (dChain g g' ta tb tc)) :=
  ⟨PT.wk (pt_chain (OpR.fit ho) (OpR.fit ho') ha.pe hb.pe hc.pe hm) fun σ H Q _ h => by
    obtain ⟨ow, s, Qd, Ed, E, t, hQ, hE⟩ := h
    refine dchain_ok (W := W) hf hf' ⟨ow, s, _, Ed, E, t, fun r s1 q1 v H1 ow1 e1 E1 R1 => ?_, hE⟩
    split at q1
    · rename_i b
      have e : v = .bl b := by have := R1; rw [RepR, Rep] at this; exact this
      exact ⟨b, e, hQ _ _ q1 _ _ e1 E1⟩
    · exact q1.elim⟩

/-! ### and, or, not -/
variable {tA tB' : DT} {rest : List Expr}
def dAnd (t u : DT) : DT := fun s Q E => t s (fun c s1 => match c with | true => u s1 Q E | false => Q false s1) E
def dOr (t u : DT) : DT := fun s Q E => t s (fun c s1 => match c with | true => Q true s1 | false => u s1 Q E) E
def dNot (t : DT) : DT := fun s Q E => t s (fun c s1 => Q (!c) s1) E
theorem pdw_and1 (ha : PDT G X W a tA) : PDW G X W (.BoolOp .And [a] pos) tA := ⟨pw_and1 ha.pt⟩
theorem pdw_or1 (ha : PDT G X W a tA) : PDW G X W (.BoolOp .Or [a] pos) tA := ⟨pw_or1 ha.pt⟩
theorem PDW.pdt (h : PDW G X W e tA) : PDT G X W e tA := ⟨h.pw.pt⟩
theorem pdw_and (ha : PDT G X W a tA) (hb : PDW G X W (.BoolOp .And (b :: rest) pos) tB') : PDW G X W (.BoolOp .And (a :: b :: rest) pos) (dAnd tA tB') :=
  ⟨PW.wk (pw_and ha.pt hb.pw) fun σ H Q _ h => by
    obtain ⟨ow, s, Qd, Ed, E, t, hQ, hE⟩ := h
    refine ⟨ow, s, _, Ed, E, t, fun c s1 q1 H1 ow1 e1 E1 => ?_, hE⟩
    cases c with
    | true => exact ⟨ow1, s1, Qd, Ed, E1, q1, fun c2 s2 q2 H2 ow2 e2 E2 => hQ _ _ q2 _ _ (e1.trans e2) E2, hE.from e1⟩
    | false => exact hQ _ _ q1 _ _ e1 E1⟩
theorem pdw_or (ha : PDT G X W a tA) (hb : PDW G X W (.BoolOp .Or (b :: rest) pos) tB') : PDW G X W (.BoolOp .Or (a :: b :: rest) pos) (dOr tA tB') :=
  ⟨PW.wk (pw_or ha.pt hb.pw) fun σ H Q _ h => by
    obtain ⟨ow, s, Qd, Ed, E, t, hQ, hE⟩ := h
    refine ⟨ow, s, _, Ed, E, t, fun c s1 q1 H1 ow1 e1 E1 => ?_, hE⟩
    cases c with
    | false => exact ⟨ow1, s1, Qd, Ed, E1, q1, fun c2 s2 q2 H2 ow2 e2 E2 => hQ _ _ q2 _ _ (e1.trans e2) E2, hE.from e1⟩
    | true => exact hQ _ _ q1 _ _ e1 E1⟩
theorem pdt_not (ha : PDT G X W a tA) : PDT G X W (.UnaryOp .Not a pos) (dNot tA) :=
  ⟨PT.wk (pt_not ha.pt) fun σ H Q _ h => by
    obtain ⟨ow, s, Qd, Ed, E, t, hQ, hE⟩ := h
    exact ⟨ow, s, _, Ed, E, t, fun c s1 q1 H1 ow1 e1 E1 => hQ _ _ q1 _ _ e1 E1, hE⟩⟩
def dAndV (ta tb : DE) : DE := fun s Q E => ta s (fun r s1 => match r with | .v (.bl true) => tb s1 Q E | .v (.bl false) => Q (.v (.bl false)) s1 | _ => False) E
def dOrV (ta tb : DE) : DE := fun s Q E => ta s (fun r s1 => match r with | .v (.bl false) => tb s1 Q E | .v (.bl true) => Q (.v (.bl true)) s1 | _ => False) E
def dNotV (ta : DE) : DE := fun s Q E => ta s (fun r s1 => match r with | .v (.bl b) => Q (.v (.bl (!b))) s1 | _ => False) E
theorem pd_one {op} (h : PD G X W a ta) : PD G X W (.BoolOp op [a] pos) ta := ⟨pe_one h.pe⟩
theorem RepR.bl {ow : OW} {H H0 : Hp} {σ : L2.St} {b : Bool} {v : V} (h : RepR G ow H H0 σ (.v (.bl b)) v) : v = .bl b := by rw [RepR, Rep] at h; exact h
theorem pd_and (ha : PD G X W a ta) (hb : PD G X W (.BoolOp .And (b :: rest) pos) tb) : PD G X W (.BoolOp .And (a :: b :: rest) pos) (dAndV ta tb) :=
  ⟨PE.wk (pe_and ha.pe hb.pe) fun σ H Q _ h => by
    obtain ⟨ow, s, Qd, Ed, E, t, hQ, hE⟩ := h
    refine ⟨ow, s, _, Ed, E, t, fun r s1 q1 v H1 ow1 e1 E1 R1 => ?_, hE⟩
    split at q1
    · exact ⟨true, R1.bl, by rw [if_pos rfl]; exact ⟨ow1, s1, Qd, Ed, E1, q1, fun r2 s2 q2 v2 H2 ow2 e2 E2 R2 => hQ _ _ q2 _ _ _ (e1.trans e2) E2 (R2.from e1), hE.from e1⟩⟩
    · exact ⟨false, R1.bl, by rw [if_neg Bool.false_ne_true]; exact hQ _ _ q1 _ _ _ e1 E1 (by rw [RepR, Rep])⟩
    · exact q1.elim⟩
theorem pd_or (ha : PD G X W a ta) (hb : PD G X W (.BoolOp .Or (b :: rest) pos) tb) : PD G X W (.BoolOp .Or (a :: b :: rest) pos) (dOrV ta tb) :=
  ⟨PE.wk (pe_or ha.pe hb.pe) fun σ H Q _ h => by
    obtain ⟨ow, s, Qd, Ed, E, t, hQ, hE⟩ := h
    refine ⟨ow, s, _, Ed, E, t, fun r s1 q1 v H1 ow1 e1 E1 R1 => ?_, hE⟩
    split at q1
    · exact ⟨false, R1.bl, by rw [if_neg Bool.false_ne_true]; exact ⟨ow1, s1, Qd, Ed, E1, q1, fun r2 s2 q2 v2 H2 ow2 e2 E2 R2 => hQ _ _ q2 _ _ _ (e1.trans e2) E2 (R2.from e1), hE.from e1⟩⟩
    · exact ⟨true, R1.bl, by rw [if_pos rfl]; exact hQ _ _ q1 _ _ _ e1 E1 (by rw [RepR, Rep])⟩
    · exact q1.elim⟩
theorem pd_not (ha : PD G X W a ta) : PD G X W (.UnaryOp .Not a pos) (dNotV ta) :=
  ⟨PE.wk (pe_not ha.pe) fun σ H Q _ h => by
    obtain ⟨ow, s, Qd, Ed, E, t, hQ, hE⟩ := h
    refine ⟨ow, s, _, Ed, E, t, fun r s1 q1 v H1 ow1 e1 E1 R1 => ?_, hE⟩
    split at q1
    · exact ⟨_, R1.bl, hQ _ _ q1 _ _ _ e1 E1 (by rw [RepR, Rep])⟩
    · exact q1.elim⟩
/-- a if t else b -/
def dIf (t : DT) (ta tb : DE) : DE := fun s Q E => t s (fun c s1 => match c with | true => ta s1 Q E | false => tb s1 Q E) E
theorem pd_if (hc : PDT G X W c tA) (ha : PD G X W a ta) (hb : PD G X W b tb) : PD G X W (.IfExp c a b pos) (dIf tA ta tb) :=
  ⟨PE.wk (pe_ifExp hc.pt ha.pe hb.pe) fun σ H Q _ h => by
    obtain ⟨ow, s, Qd, Ed, E, t, hQ, hE⟩ := h
    refine ⟨ow, s, _, Ed, E, t, fun c s1 q1 H1 ow1 e1 E1 => ?_, hE⟩
    cases c with
    | true => rw [if_pos rfl]; exact ⟨ow1, s1, Qd, Ed, E1, q1, fun r2 s2 q2 v2 H2 ow2 e2 E2 R2 => hQ _ _ q2 _ _ _ (e1.trans e2) E2 (R2.from e1), hE.from e1⟩
    | false => rw [if_neg Bool.false_ne_true]; exact ⟨ow1, s1, Qd, Ed, E1, q1, fun r2 s2 q2 v2 H2 ow2 e2 E2 R2 => hQ _ _ q2 _ _ _ (e1.trans e2) E2 (R2.from e1), hE.from e1⟩⟩
end
end DL
namespace DL
open PySem L2

theorem OpR.or {X : Cx} {f : Value → Value → Sem Value} {r r' : R2} (h : OpR X f r) (h' : OpR X f r') : OpR X f (fun x y H Q => r x y H Q ∨ r' x y H Q) := by
  intro pins s σ H x y v u Q I rx ry q
  rcases q with q | q
  · exact h pins s σ H x y v u Q I rx ry q
  · exact h' pins s σ H x y v u Q I rx ry q

/-! ### data as the library's data -/
mutual
def pyOf : D → PyData
  | .non => .none
  | .bl b => .bool b
  | .int i => .int i
  | .str x => .str x
  | .tup l => .tuple (pyL l)
  | .lst l => .list (pyL l)
  | .dic tb ks vs => .dict ((pyL ks).zip (pyL vs))
  | .exc _ _ => .none
  | .obj _ => .none
  | .dr => .none
  | .fn _ => .none
  | .clo _ _ _ _ _ => .none
  | .scr _ => .none
  | .lds l => .tuple (pyL l)
def pyL : List D → List PyData
  | [] => []
  | d :: l => pyOf d :: pyL l
end
mutual
/-- may be compared: no dict, no object; not deeper than n -/
def okE : Nat → D → Bool
  | _, .non => true
  | _, .bl _ => true
  | _, .int _ => true
  | _, .str x => PyData.strOk x
  | n + 1, .tup l => okEL n l
  | n + 1, .lst l => okEL n l
  | n + 1, .lds l => okEL n l
  | _, _ => false
def okEL : Nat → List D → Bool
  | _, [] => true
  | n, d :: l => okE n d && okEL n l
end
mutual
def eqD : D → D → Bool
  | .non, .non => true
  | .bl a, .bl b => a == b
  | .bl a, .int j => (if a then 1 else 0) == j
  | .int i, .bl b => i == (if b then 1 else 0)
  | .int i, .int j => i == j
  | .str x, .str y => x == y
  | .tup l, .tup m => eqL l m
  | .lst l, .lst m => eqL l m
  | .lds l, .tup m => eqL l m
  | .tup l, .lds m => eqL l m
  | .lds l, .lds m => eqL l m
  | _, _ => false
def eqL : List D → List D → Bool
  | [], [] => true
  | d :: l, e :: m => eqD d e && eqL l m
  | _, _ => false
end
mutual
theorem eqD_py : ∀ (n m : Nat) (d e : D), okE n d = true → okE m e = true → eqD d e = PyData.eqv (pyOf d) (pyOf e)
  | n, m, .non, e, h, k => by cases e <;> first | (cases m <;> simp [okE] at k; done) | simp [eqD, pyOf, PyData.eqv]
  | n, m, .bl a, e, h, k => by cases e <;> first | (cases m <;> simp [okE] at k; done) | simp [eqD, pyOf, PyData.eqv]
  | n, m, .int i, e, h, k => by cases e <;> first | (cases m <;> simp [okE] at k; done) | simp [eqD, pyOf, PyData.eqv]
  | n, m, .str x, e, h, k => by cases e <;> first | (cases m <;> simp [okE] at k; done) | simp [eqD, pyOf, PyData.eqv]
  | 0, m, .tup l, e, h, k => by simp [okE] at h
  | n + 1, m, .tup l, e, h, k => by
    cases e with
    | tup l' =>
      cases m with
      | zero => simp [okE] at k
      | succ m =>
        simp only [okE] at h k
        simp only [eqD, pyOf, PyData.eqv]
        exact eqL_py n m l l' h k
    | lds l' =>
      cases m with
      | zero => simp [okE] at k
      | succ m =>
        simp only [okE] at h k
        simp only [eqD, pyOf, PyData.eqv]
        exact eqL_py n m l l' h k
    | _ => first | (cases m <;> simp [okE] at k; done) | simp [eqD, pyOf, PyData.eqv]
  | 0, m, .lst l, e, h, k => by simp [okE] at h
  | n + 1, m, .lst l, e, h, k => by
    cases e with
    | lst l' =>
      cases m with
      | zero => simp [okE] at k
      | succ m =>
        simp only [okE] at h k
        simp only [eqD, pyOf, PyData.eqv]
        exact eqL_py n m l l' h k
    | _ => first | (cases m <;> simp [okE] at k; done) | simp [eqD, pyOf, PyData.eqv]
  | n, m, .dic tb ks vs, e, h, k => by cases n <;> simp [okE] at h
  | n, m, .exc _ _, e, h, k => by cases n <;> simp [okE] at h
  | n, m, .obj _, e, h, k => by cases n <;> simp [okE] at h
  | n, m, .dr, e, h, k => by cases n <;> simp [okE] at h
  | n, m, .fn _, e, h, k => by cases n <;> simp [okE] at h
  | n, m, .clo _ _ _ _ _, e, h, k => by cases n <;> simp [okE] at h
  | n, m, .scr _, e, h, k => by cases n <;> simp [okE] at h
  | 0, m, .lds l, e, h, k => by simp [okE] at h
  | n + 1, m, .lds l, e, h, k => by
    cases e with
    | tup l' =>
      cases m with
      | zero => simp [okE] at k
      | succ m =>
        simp only [okE] at h k
        simp only [eqD, pyOf, PyData.eqv]
        exact eqL_py n m l l' h k
    | lds l' =>
      cases m with
      | zero => simp [okE] at k
      | succ m =>
        simp only [okE] at h k
        simp only [eqD, pyOf, PyData.eqv]
        exact eqL_py n m l l' h k
    | _ => first | (cases m <;> simp [okE] at k; done) | simp [eqD, pyOf, PyData.eqv]
theorem eqL_py : ∀ (n m : Nat) (l l' : List D), okEL n l = true → okEL m l' = true → eqL l l' = PyData.eqvAll (pyL l) (pyL l')
  | n, m, [], [], _, _ => by simp [eqL, pyL, PyData.eqvAll]
  | n, m, [], e :: l', _, _ => by simp [eqL, pyL, PyData.eqvAll]
  | n, m, d :: l, [], _, _ => by simp [eqL, pyL, PyData.eqvAll]
  | n, m, d :: l, e :: l', h, k => by
    simp only [okEL, Bool.and_eq_true] at h k
    simp only [eqL, pyL, PyData.eqvAll]
    rw [eqD_py n m d e h.1 k.1, eqL_py n m l l' h.2 k.2]
end
mutual
theorem okE_lay : ∀ (n : Nat) (d : D), okE n d = true → (pyOf d).canLay0 = true ∧ (pyOf d).depth ≤ n
  | n, .non, h => by simp [pyOf, PyData.canLay0, PyData.depth]
  | n, .bl a, h => by simp [pyOf, PyData.canLay0, PyData.depth]
  | n, .int i, h => by simp [pyOf, PyData.canLay0, PyData.depth]
  | n, .str x, h => by simpa [pyOf, PyData.canLay0, PyData.depth, okE] using h
  | 0, .tup l, h => by simp [okE] at h
  | n + 1, .tup l, h => by
    simp only [okE] at h
    have q := okEL_lay n l h
    simp only [pyOf, PyData.canLay0, PyData.depth]
    exact ⟨q.1, Nat.succ_le_succ q.2⟩
  | 0, .lst l, h => by simp [okE] at h
  | n + 1, .lst l, h => by
    simp only [okE] at h
    have q := okEL_lay n l h
    simp only [pyOf, PyData.canLay0, PyData.depth]
    exact ⟨q.1, Nat.succ_le_succ q.2⟩
  | n, .dic tb ks vs, h => by cases n <;> simp [okE] at h
  | n, .exc _ _, h => by cases n <;> simp [okE] at h
  | n, .obj _, h => by cases n <;> simp [okE] at h
  | n, .dr, h => by cases n <;> simp [okE] at h
  | n, .fn _, h => by cases n <;> simp [okE] at h
  | n, .clo _ _ _ _ _, h => by cases n <;> simp [okE] at h
  | n, .scr _, h => by cases n <;> simp [okE] at h
  | 0, .lds l, h => by simp [okE] at h
  | n + 1, .lds l, h => by
    simp only [okE] at h
    have q := okEL_lay n l h
    simp only [pyOf, PyData.canLay0, PyData.depth]
    exact ⟨q.1, Nat.succ_le_succ q.2⟩
theorem okEL_lay : ∀ (n : Nat) (l : List D), okEL n l = true → PyData.canLayAll0 (pyL l) = true ∧ PyData.depthAll (pyL l) ≤ n
  | n, [], h => by simp [pyL, PyData.canLayAll0, PyData.depthAll]
  | n, d :: l, h => by
    simp only [okEL, Bool.and_eq_true] at h
    have q1 := okE_lay n d h.1
    have q2 := okEL_lay n l h.2
    simp only [pyL, PyData.canLayAll0, PyData.depthAll, Bool.and_eq_true]
    exact ⟨⟨q1.1, q2.1⟩, Nat.max_le.mpr ⟨q1.2, q2.2⟩⟩
end
theorem okE_shaped {d : D} (h : okE 64 d = true) : SeqAt.shaped (pyOf d) = true := by
  have q := okE_lay 64 d h
  unfold SeqAt.shaped
  rw [q.1, decide_eq_true q.2]; rfl
section
variable {G : GT} {K : PySem.W.Frag} {H : Hp} {ow : OW}
theorem TupAt.sq {a : Addr} {xs : List V} (h : TupAt H ow a xs) : SqT K H a xs := .inl (.inl h.2)
theorem LdsAt.sq {a : Addr} {xs : List V} (h : LdsAt H ow a xs) : SqT K H a xs := by
  obtain ⟨_, o, _, h⟩ := h
  exact .inl (.inr ⟨o, h⟩)
theorem TupQ.sq {a : Addr} {xs : List V} (h : TupQ H ow a xs) : SqT K H a xs := h.elim TupAt.sq LdsAt.sq
theorem sqL_of {a : Addr} {xs : List V} (h : H a = some (.lst xs)) : SqL K H a xs := .inl (.inl h)
mutual
theorem Rep.dp : ∀ (n : Nat) (d : D) (v : V), okE n d = true → Rep G H ow d v → Dp K H v (pyOf d)
  | _, .non, v, _, h => by rw [Rep] at h; subst h; rw [pyOf]; exact .non
  | _, .bl b, v, _, h => by rw [Rep] at h; subst h; rw [pyOf]; exact .bl b
  | _, .int i, v, _, h => by rw [Rep] at h; subst h; rw [pyOf]; exact .int i
  | _, .str i, v, _, h => by rw [Rep] at h; subst h; rw [pyOf]; exact .str i
  | 0, .tup l, v, k, h => by simp [okE] at k
  | n + 1, .tup l, v, k, h => by
    rw [Rep] at h
    obtain ⟨a, xs, rfl, t, q⟩ := h
    simp only [okE] at k
    rw [pyOf]
    exact .tup t.sq (RepL.dp n l xs k q)
  | 0, .lst l, v, k, h => by simp [okE] at k
  | n + 1, .lst l, v, k, h => by
    rw [Rep] at h
    obtain ⟨a, xs, rfl, t, q⟩ := h
    simp only [okE] at k
    rw [pyOf]
    exact .lst (sqL_of t.2) (RepL.dp n l xs k q)
  | n, .dic tb ks vs, _, h, _ => by cases n <;> simp [okE] at h
  | n, .exc _ _, _, h, _ => by cases n <;> simp [okE] at h
  | n, .obj _, _, h, _ => by cases n <;> simp [okE] at h
  | n, .dr, _, h, _ => by cases n <;> simp [okE] at h
  | n, .fn _, _, h, _ => by cases n <;> simp [okE] at h
  | n, .clo _ _ _ _ _, _, h, _ => by cases n <;> simp [okE] at h
  | n, .scr _, _, h, _ => by cases n <;> simp [okE] at h
  | 0, .lds l, v, k, h => by simp [okE] at k
  | n + 1, .lds l, v, k, h => by
    rw [Rep] at h
    obtain ⟨a, xs, rfl, t, q⟩ := h
    simp only [okE] at k
    rw [pyOf]
    exact .tup t.sq (RepL.dp n l xs k q)
theorem RepL.dp : ∀ (n : Nat) (l : List D) (xs : List V), okEL n l = true → RepL G H ow l xs → DpAll K H xs (pyL l)
  | _, [], _, _, h => by rw [RepL] at h; subst h; rw [pyL]; exact .nil
  | n, d :: l, _, k, h => by
    rw [RepL] at h
    obtain ⟨x, r, rfl, q1, q2⟩ := h
    simp only [okEL, Bool.and_eq_true] at k
    rw [pyL]
    exact .cons (Rep.dp n d x k.1 q1) (RepL.dp n l r k.2 q2)
end
theorem RepV.dp : ∀ {n : Nat} {d : D} {v : V}, okE n d = true → RepV G H ow d v → Dp K H v (pyOf d)
  | n, .lst l, v, k, h => by
    obtain ⟨a, xs, rfl, t, q⟩ := h
    cases n with
    | zero => simp [okE] at k
    | succ n =>
      simp only [okE] at k
      rw [pyOf]
      exact .lst (sqL_of t) (RepL.dp n l xs k q)
  | n, .dic tb ks vs, v, k, _ => by cases n <;> simp [okE] at k
  | n, .tup _, v, k, h => Rep.dp (G := G) (ow := ow) n _ v k h
  | n, .non, v, k, h => Rep.dp (G := G) (ow := ow) n _ v k h
  | n, .bl _, v, k, h => Rep.dp (G := G) (ow := ow) n _ v k h
  | n, .int _, v, k, h => Rep.dp (G := G) (ow := ow) n _ v k h
  | n, .str _, v, k, h => Rep.dp (G := G) (ow := ow) n _ v k h
  | n, .exc _ _, v, k, h => Rep.dp (G := G) (ow := ow) n _ v k h
  | n, .obj _, v, k, h => Rep.dp (G := G) (ow := ow) n _ v k h
  | n, .dr, v, k, h => Rep.dp (G := G) (ow := ow) n _ v k h
  | n, .fn _, v, k, h => Rep.dp (G := G) (ow := ow) n _ v k h
  | n, .clo _ _ _ _ _, v, k, h => Rep.dp (G := G) (ow := ow) n _ v k h
  | n, .scr _, v, k, h => Rep.dp (G := G) (ow := ow) n _ v k h
  | n, .lds _, v, k, h => Rep.dp (G := G) (ow := ow) n _ v k h
end

/-! ### operators by data -/
def ifB {α : Type} (b : Bool) (o : Option α) : Option α := match b with
  | true => o
  | false => none
theorem ifB_some {α : Type} {b : Bool} {o : Option α} {a : α} (h : ifB b o = some a) : b = true ∧ o = some a := by
  cases b with
  | true => exact ⟨rfl, h⟩
  | false => cases h
def rB (b : Bool) : Option Rv := some (.v (.bl b))
def rI' (i : Int) : Option Rv := some (.v (.int i))
/-- a sequence beside an empty one of its kind: whatever lies in it -/
def eq0 (d e : D) : Option Bool := match d, e with
  | .lst l, .lst [] => some l.isEmpty
  | .tup l, .tup [] => some l.isEmpty
  | .lds l, .tup [] => some l.isEmpty
  | .tup l, .lds [] => some l.isEmpty
  | .lds l, .lds [] => some l.isEmpty
  | _, _ => none
def gEq : DOp := fun d e => match eq0 d e with
  | some b => rB b
  | none => ifB (okE 64 d && okE 64 e) (rB (eqD d e))
def gNe : DOp := fun d e => match eq0 d e with
  | some b => rB (!b)
  | none => ifB (okE 64 d && okE 64 e) (rB (!eqD d e))
def rEq0 (neg : Bool) (K : PySem.W.Frag) : R2 := fun x y H Q => ∃ a b xs, x = .ref a ∧ y = .ref b ∧ ((SqL K H a xs ∧ SqL K H b []) ∨ (SqT K H a xs ∧ SqT K H b [])) ∧ Q (.bl (if neg then !xs.isEmpty else xs.isEmpty)) H
theorem isEmpty_len {xs : List V} {its : List Value} (r : Vals xs its) : xs.isEmpty = (its.toArray.size == 0) := by
  cases r <;> simp
theorem rc0 {X : Cx} {pins : List (Addr × Obj)} {σ : L2.St} {H : Hp} {s : Shared} {a b : Addr} {xs : List V} (I : Inv X pins σ H s) (hu : X.A.units < cLine) (h : (SqL X.K H a xs ∧ SqL X.K H b []) ∨ (SqT X.K H a xs ∧ SqT X.K H b [])) :
    SeqAt.RcAt X.A s (.ref a) (.ref b) xs.isEmpty ∧ SeqAt.RcNeAt X.A s (.ref a) (.ref b) (!xs.isEmpty) := by
  rcases h with ⟨h1, h2⟩ | ⟨h1, h2⟩
  · obtain ⟨its, r1, p1, _⟩ := I.list h1
    obtain ⟨its2, r2, p2, _⟩ := I.list h2
    cases r2
    rw [isEmpty_len r1]
    by_cases hz : its.toArray.size = 0
    · have e : (its.toArray.size == 0) = true := by rw [hz]; rfl
      rw [e]
      have k1 := SeqAt.RcAt.lists (A := X.A) (e := fun _ => true) p1.isList p2.isList hz hu (fun j _ j2 => absurd j2 (by simp))
      have k2 := SeqAt.RcNeAt.lists (A := X.A) (e := fun _ => true) p1.isList p2.isList hz hu (fun j _ j2 => absurd j2 (by simp))
      rw [hz] at k1 k2
      exact ⟨k1, k2⟩
    · have e : (its.toArray.size == 0) = false := by simpa using hz
      rw [e]
      exact ⟨SeqAt.RcAt.lists_lengths p1.isList p2.isList (by simpa using hz) hu, SeqAt.RcNeAt.lists_lengths p1.isList p2.isList (by simpa using hz) hu⟩
  · obtain ⟨its, r1, p1, _⟩ := I.tuple h1
    obtain ⟨its2, r2, p2, _⟩ := I.tuple h2
    cases r2
    rw [isEmpty_len r1]
    have k1 := SeqAt.RcAt.tuples (A := X.A) (e := fun _ => true) p1 p2 hu (fun j _ j2 => absurd j2 (by simp))
    have k2 := SeqAt.RcNeAt.tuples (A := X.A) (e := fun _ => true) p1 p2 hu (fun j _ j2 => absurd j2 (by simp))
    have e : ((List.range (min its.toArray.size ([] : List Value).toArray.size)).all (fun _ => true) && its.toArray.size == ([] : List Value).toArray.size) = (its.toArray.size == 0) := by simp
    rw [e] at k1 k2
    exact ⟨k1, k2⟩
theorem op_eq0 {X : Cx} (hu : X.A.units < cLine) : OpR X (compareOp .Eq) (rEq0 false X.K) := by
  intro pins s σ H x y v u Q I rx ry h
  obtain ⟨a, b, xs, rfl, rfl, hs, q⟩ := h
  cases rx
  cases ry
  exact (rc0 I hu hs).1 _ _ _ _ ⟨.bl _, H, I, rfl, q⟩
theorem op_ne0 {X : Cx} (hu : X.A.units < cLine) : OpR X (compareOp .NotEq) (rEq0 true X.K) := by
  intro pins s σ H x y v u Q I rx ry h
  obtain ⟨a, b, xs, rfl, rfl, hs, q⟩ := h
  cases rx
  cases ry
  exact (rc0 I hu hs).2 _ _ _ _ ⟨.bl _, H, I, rfl, q⟩
def rEqE (K : PySem.W.Frag) : R2 := fun x y H Q => rEq0 false K x y H Q ∨ rEqD K x y H Q
def rNeE (K : PySem.W.Frag) : R2 := fun x y H Q => rEq0 true K x y H Q ∨ rNeD K x y H Q
theorem op_eqE {X : Cx} (hu : X.A.units + 64 < cLine) : OpR X (compareOp .Eq) (rEqE X.K) := OpR.or (op_eq0 (by omega)) (op_eqD hu)
theorem op_neE {X : Cx} (hu : X.A.units + 64 < cLine) : OpR X (compareOp .NotEq) (rNeE X.K) := OpR.or (op_ne0 (by omega)) (op_neD hu)
theorem eq0_rep {G : GT} {ow : OW} {H : Hp} {K : PySem.W.Frag} {d1 d2 : D} {x y : V} {b : Bool} (h : eq0 d1 d2 = some b) (v1 : RepV G H ow d1 x) (v2 : RepV G H ow d2 y) :
    ∃ p q xs, x = .ref p ∧ y = .ref q ∧ ((SqL K H p xs ∧ SqL K H q []) ∨ (SqT K H p xs ∧ SqT K H q [])) ∧ b = xs.isEmpty := by
  have emp : ∀ {l : List D} {xs : List V}, RepL G H ow l xs → l.isEmpty = xs.isEmpty := fun {l xs} r => by
    have := r.length
    cases l <;> cases xs <;> simp_all
  have tl : ∀ {d : D} {l : List D} {v : V}, (d = .tup l ∨ d = .lds l) → RepV G H ow d v → ∃ p xs, v = .ref p ∧ SqT K H p xs ∧ RepL G H ow l xs := by
    intro d l v e h
    rcases e with rfl | rfl
    · have h' : Rep G H ow (.tup l) v := h
      rw [Rep] at h'
      obtain ⟨a, xs, rfl, t, r⟩ := h'
      exact ⟨a, xs, rfl, t.sq, r⟩
    · have h' : Rep G H ow (.lds l) v := h
      rw [Rep] at h'
      obtain ⟨a, xs, rfl, t, r⟩ := h'
      exact ⟨a, xs, rfl, t.sq, r⟩
  have fin : ∀ {l : List D}, (d1 = .tup l ∨ d1 = .lds l) → (d2 = .tup [] ∨ d2 = .lds []) → b = l.isEmpty → ∃ p q xs, x = .ref p ∧ y = .ref q ∧ ((SqL K H p xs ∧ SqL K H q []) ∨ (SqT K H p xs ∧ SqT K H q [])) ∧ b = xs.isEmpty := by
    intro l e1 e2 eb
    obtain ⟨p, xs, rfl, t1, r1⟩ := tl e1 v1
    obtain ⟨q, ys, rfl, t2, r2⟩ := tl e2 v2
    rw [RepL] at r2
    subst r2
    exact ⟨p, q, xs, rfl, rfl, .inr ⟨t1, t2⟩, by rw [eb, emp r1]⟩
  unfold eq0 at h
  split at h
  · cases h
    obtain ⟨p, xs, rfl, t1, r1⟩ := v1
    obtain ⟨q, ys, rfl, t2, r2⟩ := v2
    rw [RepL] at r2
    subst r2
    exact ⟨p, q, xs, rfl, rfl, .inl ⟨sqL_of t1, sqL_of t2⟩, emp r1⟩
  · cases h; exact fin (.inl rfl) (.inl rfl) rfl
  · cases h; exact fin (.inr rfl) (.inl rfl) rfl
  · cases h; exact fin (.inl rfl) (.inr rfl) rfl
  · cases h; exact fin (.inr rfl) (.inr rfl) rfl
  · cases h
section
variable {G : GT} {X : Cx} {K : PySem.W.Frag}
theorem od_eq : OpD G (rEqE K) gEq := by
  intro σ s ow ow0 H H0 x y d1 d2 z Q ft E e0 v1 v2 hz F
  unfold gEq at hz
  split at hz
  · rename_i b hb
    cases hz
    obtain ⟨p, q, xs, rfl, rfl, hs, rfl⟩ := eq0_rep (K := K) hb v1 v2
    exact .inl ⟨p, q, xs, rfl, rfl, hs, F.bl E⟩
  refine .inr ?_
  obtain ⟨h, hz⟩ := ifB_some hz
  cases hz
  obtain ⟨h1, h2⟩ := Bool.and_eq_true_iff.mp h
  refine ⟨pyOf d1, pyOf d2, RepV.dp h1 v1, RepV.dp h2 v2, okE_shaped h1, okE_shaped h2, ?_⟩
  rw [← eqD_py 64 64 d1 d2 h1 h2]
  exact F.bl E
theorem od_ne : OpD G (rNeE K) gNe := by
  intro σ s ow ow0 H H0 x y d1 d2 z Q ft E e0 v1 v2 hz F
  unfold gNe at hz
  split at hz
  · rename_i b hb
    cases hz
    obtain ⟨p, q, xs, rfl, rfl, hs, rfl⟩ := eq0_rep (K := K) hb v1 v2
    exact .inl ⟨p, q, xs, rfl, rfl, hs, F.bl E⟩
  refine .inr ?_
  obtain ⟨h, hz⟩ := ifB_some hz
  cases hz
  obtain ⟨h1, h2⟩ := Bool.and_eq_true_iff.mp h
  refine ⟨pyOf d1, pyOf d2, RepV.dp h1 v1, RepV.dp h2 v2, okE_shaped h1, okE_shaped h2, ?_⟩
  rw [← eqD_py 64 64 d1 d2 h1 h2]
  exact F.bl E
/-- ints alone -/
def gI (f : Int → Int → Option Rv) : DOp := fun d e => match d, e with
  | .int i, .int j => f i j
  | _, _ => none
theorem gI_some {f : Int → Int → Option Rv} {d e : D} {z : Rv} (h : gI f d e = some z) : ∃ i j, d = .int i ∧ e = .int j ∧ f i j = some z := by
  unfold gI at h
  split at h
  · exact ⟨_, _, rfl, rfl, h⟩
  · cases h
theorem RepV.int {H : Hp} {ow : OW} {i : Int} {v : V} (h : RepV G H ow (.int i) v) : v = .int i := by
  have h' : Rep G H ow (.int i) v := h
  rw [Rep] at h'; exact h'
theorem RepV.bl {H : Hp} {ow : OW} {i : Bool} {v : V} (h : RepV G H ow (.bl i) v) : v = .bl i := by
  have h' : Rep G H ow (.bl i) v := h
  rw [Rep] at h'; exact h'
theorem RepV.str {H : Hp} {ow : OW} {i : Str} {v : V} (h : RepV G H ow (.str i) v) : v = .str i := by
  have h' : Rep G H ow (.str i) v := h
  rw [Rep] at h'; exact h'
theorem RepV.non {H : Hp} {ow : OW} {v : V} (h : RepV G H ow .non v) : v = .non := by
  have h' : Rep G H ow .non v := h
  rw [Rep] at h'; exact h'
theorem RepV.tup {H : Hp} {ow : OW} {l : List D} {v : V} (h : RepV G H ow (.tup l) v) : ∃ a xs, v = .ref a ∧ TupAt H ow a xs ∧ RepL G H ow l xs := by
  have h' : Rep G H ow (.tup l) v := h
  rw [Rep] at h'; exact h'
theorem RepV.lds {H : Hp} {ow : OW} {l : List D} {v : V} (h : RepV G H ow (.lds l) v) : ∃ a xs, v = .ref a ∧ LdsAt H ow a xs ∧ RepL G H ow l xs := by
  have h' : Rep G H ow (.lds l) v := h
  rw [Rep] at h'; exact h'
def gSub : DOp := gI fun i j => rI' (i - j)
theorem od_sub : OpD G (rI0 fun i j => .int (i - j)) gSub := by
  intro σ s ow ow0 H H0 x y d1 d2 z Q ft E e0 v1 v2 hz F
  obtain ⟨i, j, rfl, rfl, hz⟩ := gI_some hz
  cases hz
  exact ⟨i, j, v1.int, v2.int, F.int E⟩
def gLt : DOp := gI fun i j => rB (decide (i < j))
def gLe : DOp := gI fun i j => rB (decide (i ≤ j))
def gGt : DOp := gI fun i j => rB (decide (j < i))
def gGe : DOp := gI fun i j => rB (decide (j ≤ i))
theorem od_lt : OpD G (rI0 fun i j => .bl (decide (i < j))) gLt := by
  intro σ s ow ow0 H H0 x y d1 d2 z Q ft E e0 v1 v2 hz F
  obtain ⟨i, j, rfl, rfl, hz⟩ := gI_some hz
  cases hz
  exact ⟨i, j, v1.int, v2.int, F.bl E⟩
theorem od_le : OpD G (rI0 fun i j => .bl (decide (i ≤ j))) gLe := by
  intro σ s ow ow0 H H0 x y d1 d2 z Q ft E e0 v1 v2 hz F
  obtain ⟨i, j, rfl, rfl, hz⟩ := gI_some hz
  cases hz
  exact ⟨i, j, v1.int, v2.int, F.bl E⟩
theorem od_gt : OpD G (rI0 fun i j => .bl (decide (j < i))) gGt := by
  intro σ s ow ow0 H H0 x y d1 d2 z Q ft E e0 v1 v2 hz F
  obtain ⟨i, j, rfl, rfl, hz⟩ := gI_some hz
  cases hz
  exact ⟨i, j, v1.int, v2.int, F.bl E⟩
theorem od_ge : OpD G (rI0 fun i j => .bl (decide (j ≤ i))) gGe := by
  intro σ s ow ow0 H H0 x y d1 d2 z Q ft E e0 v1 v2 hz F
  obtain ⟨i, j, rfl, rfl, hz⟩ := gI_some hz
  cases hz
  exact ⟨i, j, v1.int, v2.int, F.bl E⟩
def smallI (i : Int) : Bool := decide (-(2 ^ 64) < i) && decide (i < 2 ^ 64)
theorem smallI_of {i : Int} (h : smallI i = true) : -(2 ^ 64) < i ∧ i < 2 ^ 64 := by
  obtain ⟨h1, h2⟩ := Bool.and_eq_true_iff.mp h
  exact ⟨of_decide_eq_true h1, of_decide_eq_true h2⟩
end
end DL
namespace DL
open PySem PySem.Spec PyProof.Rows L2
/-! ### tuple * 1, tuple * 0 -/
theorem tuple_mul_one (l : Addr) (items : Array Value) (n : Nat) (dd : Option Addr) (sl : Array (Option Value)) (u : Tok) :
    Meets (Builtin.«tuple.__mul__» ⟨[.ref l, .int 1 u], []⟩) (fun _ R s => s.heap.get? l = some { cls := .type "tuple", dict := dd, data := .seq items n, slots := sl } ∧ R (.ok (.ret (Value.ref l))) s) :=
  .of_wp fun prog w A R s h => by
    obtain ⟨hp, g, d, tk, os⟩ := s
    obtain ⟨hl, h⟩ := h
    have f1 := AutoSeq1.idx_int
    have c1 : (items.isEmpty || (1 : Int) == 1) = true := by simp
    wp_walk using wpAny_loadPart' hl
    repeat (first
      | (refine wpAny_ite_true (decide_eq_true (by exact c1)) ?_; wp_walk using wpAny_loadPart' hl)
      | (refine wpAny_ite_true c1 ?_; wp_walk using wpAny_loadPart' hl))
    exact ⟨_, rfl, h⟩
def rRep1 (K : PySem.W.Frag) : R2 := fun x y H Q => ∃ l xs, x = .ref l ∧ y = .int 1 ∧ SqT K H l xs ∧ Q (.ref l) H
theorem op_rep1 {X : Cx} : OpR X (binaryOp .Mult) (rRep1 X.K) := by
  intro pins s σ H x y v u Q I rx ry h
  obtain ⟨l, xs, rfl, rfl, hT, q⟩ := h
  cases rx
  obtain ⟨t, rfl⟩ := ry
  obtain ⟨its, _, ⟨⟨cls, dd, data, sl⟩, ho, hc, n, hd⟩, _⟩ := I.tuple hT
  simp only at hc hd
  subst hc
  subst hd
  refine wpAny_binaryOp_repeat_ref (T := "tuple") (U := "int") (by decide) ⟨_, ho, rfl⟩ (fun z => typeIs_int z 1 t) noFill_tuple_mul F.fills_int_mul F.slot_int_rmul repeat_tuple F.slot_int_index.lookup ?_
  refine call_meets F.slot_int_rmul (typeIs_int s 1 t) F.entry_int_rmul (F.args_int_rmul_2 _ _) (int_rmul_tuple 1 t l its.toArray n dd sl) ⟨ho, rfl, ⟨_, ho, rfl⟩, ?_⟩
  refine call_meets F.slot_tuple_mul ⟨_, ho, rfl⟩ F.entry_tuple_mul (F.args_tuple_mul_2 _ _) (tuple_mul_one l its.toArray n dd sl t) ⟨ho, ?_⟩
  exact ⟨.ref l, H, I, rfl, q⟩

/-- t * k that is t itself: an empty t, or k one -/
theorem tuple_mul_same (l : Addr) (items : Array Value) (n : Nat) (dd : Option Addr) (sl : Array (Option Value)) (x : Int) (u : Tok) (c0 : (decide (x < -(2 ^ 63)) || decide (x ≥ 2 ^ 63)) = false) (c1 : (items.isEmpty || x == 1) = true) :
    Meets (Builtin.«tuple.__mul__» ⟨[.ref l, .int x u], []⟩) (fun _ R s => s.heap.get? l = some { cls := .type "tuple", dict := dd, data := .seq items n, slots := sl } ∧ R (.ok (.ret (Value.ref l))) s) :=
  .of_wp fun prog w A R s h => by
    obtain ⟨hp, g, d, tk, os⟩ := s
    obtain ⟨hl, h⟩ := h
    have f1 := AutoSeq1.idx_int
    wp_walk using wpAny_loadPart' hl
    repeat (first
      | (refine wpAny_ite_false (decide_eq_false (by rw [c0]; exact Bool.false_ne_true)) ?_; wp_walk using wpAny_loadPart' hl)
      | (refine wpAny_ite_true (decide_eq_true (by exact c1)) ?_; wp_walk using wpAny_loadPart' hl)
      | (refine wpAny_ite_true c1 ?_; wp_walk using wpAny_loadPart' hl))
    exact ⟨_, rfl, h⟩
def rRepS (K : PySem.W.Frag) : R2 := fun x y H Q => ∃ l k xs, x = .ref l ∧ y = .int k ∧ SqT K H l xs ∧ (xs = [] ∨ k = 1) ∧ 0 ≤ k ∧ k ≤ 1000 ∧ Q (.ref l) H
theorem op_repS {X : Cx} : OpR X (binaryOp .Mult) (rRepS X.K) := by
  intro pins s σ H x y v u Q I rx ry h
  obtain ⟨l, k, xs, rfl, rfl, hT, hs, k0, k1, q⟩ := h
  cases rx
  obtain ⟨t, rfl⟩ := ry
  obtain ⟨its, rv, ⟨⟨cls, dd, data, sl⟩, ho, hc, n, hd⟩, _⟩ := I.tuple hT
  simp only at hc hd
  subst hc
  subst hd
  have c1 : (its.toArray.isEmpty || k == 1) = true := by
    rcases hs with rfl | rfl
    · cases rv; rfl
    · simp
  have c0 : (decide (k < -(2 ^ 63)) || decide (k ≥ 2 ^ 63)) = false := by rw [decide_eq_false (by omega), decide_eq_false (by omega)] <;> rfl
  refine wpAny_binaryOp_repeat_ref (T := "tuple") (U := "int") (by decide) ⟨_, ho, rfl⟩ (fun z => typeIs_int z k t) noFill_tuple_mul F.fills_int_mul F.slot_int_rmul repeat_tuple F.slot_int_index.lookup ?_
  refine call_meets F.slot_int_rmul (typeIs_int s k t) F.entry_int_rmul (F.args_int_rmul_2 _ _) (int_rmul_tuple k t l its.toArray n dd sl) ⟨ho, rfl, ⟨_, ho, rfl⟩, ?_⟩
  refine call_meets F.slot_tuple_mul ⟨_, ho, rfl⟩ F.entry_tuple_mul (F.args_tuple_mul_2 _ _) (tuple_mul_same l its.toArray n dd sl k t c0 c1) ⟨ho, ?_⟩
  exact ⟨.ref l, H, I, rfl, q⟩
/-! ### + * // % ** -, by data -/
def fitN (n : Nat) : Bool := decide (n ≤ 16777216)
theorem fitN_le {n : Nat} (h : fitN n = true) : n ≤ sizeLine := by
  have := of_decide_eq_true h
  rw [sizeLine_eq]; exact this
/-- t + u, the new tuple's object known -/
def rCatK (K : PySem.W.Frag) : R2 := fun x y H Q => ∃ a b xs ys, x = .ref a ∧ y = .ref b ∧ SqT K H a xs ∧ SqT K H b ys ∧ xs.length + ys.length ≤ sizeLine ∧
  (xs = [] → Q (.ref b) H) ∧ (xs ≠ [] → ys = [] → Q (.ref a) H) ∧ (xs ≠ [] → ys ≠ [] → ∀ (p : Addr) (o : Obj), H p = none → o.dict = none → Q (.ref p) (upd H p (.frz o (.tup (xs ++ ys)))))
theorem op_catK {X : Cx} : OpR X (binaryOp .Add) (rCatK X.K) := by
  intro pins s σ H x y v u Q I rx ry h
  obtain ⟨a, b, xs, ys, rfl, rfl, ha, hb, hz, q0, q1, q2⟩ := h
  cases rx
  cases ry
  obtain ⟨its, r1, p1, _⟩ := I.tuple ha
  obtain ⟨its2, r2, p2, _⟩ := I.tuple hb
  by_cases hx : xs = []
  · subst hx
    cases r1
    exact cat_tup0 p1 p2 ⟨.ref b, H, I, rfl, q0 rfl⟩
  · refine HT.cat_tup p1 p2 (fun z => hx (r1.nil_iff.mp z)) (fun z => ⟨.ref a, H, I, rfl, q1 hx (r2.nil_iff.mp z)⟩) (fun z => ?_) (by rw [← r1.length, ← r2.length]; exact hz)
    refine ⟨.ref s.heap.objs.size, _, I.laid (t' := s.toks) (o := .frz { cls := .type "tuple", data := .seq (its ++ its2).toArray } (.tup (xs ++ ys))) (fun b ob q => Heap.get?_push_of_some _ q) (Nat.le_refl _) ?_, rfl, q2 hx (fun w => z (r2.nil_iff.mpr w)) _ _ (I.hok.fresh (Nat.le_refl _)) rfl⟩
    exact ⟨Heap.get?_push_size _ rfl, by rw [List.length_append]; exact hz, _, r1.append r2, IsTup.new _ _⟩
def gAdd : DOp := fun d e => match d, e with
  | .int i, .int j => rI' (i + j)
  | .str a, .str b => ifB (fitN (a.length + b.length)) (some (.v (.str (a ++ b))))
  | .tup l, .tup m => ifB (fitN (l.length + m.length)) (some (.v (.tup (l ++ m))))
  | .lst l, .lst m => ifB (fitN (l.length + m.length)) (some (.ol (l ++ m)))
  | .lds l, .lds m => ifB (fitN (l.length + m.length)) (some (.v (.lds (l ++ m))))
  | _, _ => none
def rAddD (K : PySem.W.Frag) : R2 := fun x y H Q => ((((rI0 (fun i j => .int (i + j)) x y H Q) ∨ (∃ i j, x = .str i ∧ y = .str j ∧ i.length + j.length ≤ sizeLine ∧ Q (.str (i ++ j)) H)) ∨ rCatA K x y H Q) ∨ rCat x y H Q) ∨ rCatK K x y H Q
section
variable {G : GT} {X : Cx} {K : PySem.W.Frag}
theorem op_addD : OpR X (binaryOp .Add) (rAddD X.K) := OpR.or (OpR.or (OpR.or (OpR.or op_add op_add_str) op_catA) op_cat) op_catK
theorem od_add : OpD G (rAddD K) gAdd := by
  intro σ s ow ow0 H H0 x y d1 d2 z Q ft E e0 v1 v2 hz F
  unfold gAdd at hz
  split at hz
  · cases hz
    exact .inl (.inl (.inl (.inl ⟨_, _, v1.int, v2.int, F.int E⟩)))
  · obtain ⟨h, hz⟩ := ifB_some hz
    cases hz
    exact .inl (.inl (.inl (.inr ⟨_, _, v1.str, v2.str, fitN_le h, F.str E⟩)))
  · obtain ⟨h, hz⟩ := ifB_some hz
    cases hz
    obtain ⟨a, xs, rfl, t1, r1⟩ := v1.tup
    obtain ⟨b, ys, rfl, t2, r2⟩ := v2.tup
    refine .inl (.inl (.inr ⟨a, b, xs, ys, rfl, rfl, t1.sq, t2.sq, by rw [r1.length, r2.length]; exact fitN_le h, fun e => ?_, fun _ e => ?_, fun _ _ p hp => ?_⟩))
    · subst e
      have : _ = 0 := r1.length.symm
      rw [List.length_eq_zero_iff.mp this, List.nil_append] at F
      exact F.pure E (by rw [Rep]; exact ⟨b, ys, rfl, t2, r2⟩)
    · subst e
      have : _ = 0 := r2.length.symm
      rw [List.length_eq_zero_iff.mp this, List.append_nil] at F
      exact F.pure E (by rw [Rep]; exact ⟨a, xs, rfl, t1, r1⟩)
    · exact F.tup E hp (r1.append r2)
  · obtain ⟨h, hz⟩ := ifB_some hz
    cases hz
    obtain ⟨a, xs, rfl, t1, r1⟩ := v1
    obtain ⟨b, ys, rfl, t2, r2⟩ := v2
    exact .inl (.inr ⟨a, b, xs, ys, rfl, rfl, t1, t2, by rw [r1.length, r2.length]; exact fitN_le h, fun p hp => F.lst E e0 hp (r1.append r2)⟩)
  · obtain ⟨h, hz⟩ := ifB_some hz
    cases hz
    obtain ⟨a, xs, rfl, t1, r1⟩ := v1.lds
    obtain ⟨b, ys, rfl, t2, r2⟩ := v2.lds
    refine .inr ⟨a, b, xs, ys, rfl, rfl, t1.sq, t2.sq, by rw [r1.length, r2.length]; exact fitN_le h, fun e => ?_, fun _ e => ?_, fun _ _ p o hp od => ?_⟩
    · subst e
      have : _ = 0 := r1.length.symm
      rw [List.length_eq_zero_iff.mp this, List.nil_append] at F
      exact F.pure E (by rw [Rep]; exact ⟨b, ys, rfl, t2, r2⟩)
    · subst e
      have : _ = 0 := r2.length.symm
      rw [List.length_eq_zero_iff.mp this, List.append_nil] at F
      exact F.pure E (by rw [Rep]; exact ⟨a, xs, rfl, t1, r1⟩)
    · exact F.lds E hp od (r1.append r2)
  · cases hz
theorem Vals.repK {xs : List V} {us : List Value} (r : Vals xs us) : ∀ n : Nat, Vals (List.replicate n xs).flatten (List.replicate n us).flatten
  | 0 => .nil
  | n + 1 => by rw [List.replicate_succ, List.replicate_succ, List.flatten_cons, List.flatten_cons]; exact r.append (Vals.repK r n)
/-- t * k, the new tuple's object known -/
def rRepK (K : PySem.W.Frag) : R2 := fun x y H Q => ∃ l k xs, x = .ref l ∧ y = .int k ∧ SqT K H l xs ∧ xs ≠ [] ∧ 2 ≤ k ∧ k ≤ 1000 ∧ xs.length ≤ 1000 ∧ ∀ (p : Addr) (o : Obj), H p = none → o.dict = none → Q (.ref p) (upd H p (.frz o (.tup (List.replicate k.toNat xs).flatten)))
theorem op_repK {X : Cx} : OpR X (binaryOp .Mult) (rRepK X.K) := by
  intro pins s σ H x y v u Q I rx ry h
  obtain ⟨l, k, xs, rfl, rfl, hT, ne, k1, k2, xl, q⟩ := h
  cases rx; obtain ⟨t, rfl⟩ := ry
  obtain ⟨its, r, ⟨⟨c0, dd, dt, sl⟩, ho, e1, n, e2⟩, hs⟩ := I.tuple hT
  simp only at e1 e2; subst e1 e2
  have il : its.length = xs.length := r.length.symm
  have i0 : its.toArray.isEmpty = false := by
    cases its with
    | nil => cases xs with
      | nil => exact absurd rfl ne
      | cons _ _ => cases il
    | cons a b => rfl
  have az : its.toArray.size = xs.length := by rw [List.size_toArray, il]
  have mz : ((its.toArray.size : Nat) : Int) * k ≤ 1000000 := by
    rw [az]; have : ((xs.length : Nat) : Int) * k ≤ 1000 * k := Int.mul_le_mul_of_nonneg_right (by omega) (by omega)
    omega
  have fz : (List.replicate k.toNat its).flatten.length ≤ sizeLine := by
    rw [PyProof.Rows.lm_len_rep_flat, il, sizeLine_eq]; have : k.toNat * xs.length ≤ 1000 * 1000 := Nat.mul_le_mul (by omega) xl
    omega
  have g0 : (decide (k < -(2 ^ 63)) || decide (k ≥ 2 ^ 63)) = false := by rw [decide_eq_false (by omega), decide_eq_false (by omega)] <;> rfl
  have g1 : (its.toArray.isEmpty || k == 1) = false := by rw [i0, Bool.false_or]; exact beq_eq_false_iff_ne.mpr (by omega)
  have g2 : (decide (k ≤ 0) || its.toArray.isEmpty) = false := by rw [i0, Bool.or_false]; exact decide_eq_false (by omega)
  have g4 : Builtin.Tuple.tupleTooMany (((its.toArray.size : Nat) : Int) * k) = false := by unfold Builtin.Tuple.tupleTooMany; rw [sizeLine_eq]; exact decide_eq_false (by omega)
  have fin := tuple_mulW l its.toArray n dd sl k t g0 g1 g2 (by omega) g4 (by rw [size_rep, List.size_toArray]; exact fz)
  refine wpAny_binaryOp_repeat_ref (T := "tuple") (U := "int") (by decide) ⟨_, ho, rfl⟩ (fun z => typeIs_int z k t) noFill_tuple_mul F.fills_int_mul F.slot_int_rmul repeat_tuple F.slot_int_index.lookup (call_meets F.slot_int_rmul (typeIs_int s k t) F.entry_int_rmul (F.args_int_rmul_2 _ _) (int_rmul_tuple k t l its.toArray n dd sl) ⟨ho, rfl, ⟨_, ho, rfl⟩, call_meets F.slot_tuple_mul ⟨_, ho, rfl⟩ F.entry_tuple_mul (F.args_tuple_mul_2 _ _) fin ⟨ho, ?_⟩⟩)
  rw [size_rep]
  refine ⟨.ref s.heap.objs.size, _, I.laid (t' := s.toks) (o := .frz { cls := .type "tuple", data := .seq (List.replicate k.toNat its).flatten.toArray } (.tup (List.replicate k.toNat xs).flatten)) (fun b ob z => Heap.get?_push_of_some _ z) (Nat.le_refl _) ?_, rfl, q _ _ (I.hok.fresh (Nat.le_refl _)) rfl⟩
  refine ⟨Heap.get?_push_size _ rfl, ?_, _, Vals.repK r _, IsTup.new _ _⟩
  rw [PyProof.Rows.lm_len_rep_flat, ← il, ← PyProof.Rows.lm_len_rep_flat]; exact fz
def repD (n : Nat) (l : List D) : List D := (List.replicate n l).flatten
theorem RepL.rep {H : Hp} {ow : OW} {l : List D} {xs : List V} (h : RepL G H ow l xs) : ∀ n : Nat, RepL G H ow (repD n l) (List.replicate n xs).flatten
  | 0 => RepL.nil
  | n + 1 => by
    unfold repD
    rw [List.replicate_succ, List.replicate_succ, List.flatten_cons, List.flatten_cons]
    exact h.append (RepL.rep h n)
def gMul : DOp := fun d e => match d, e with
  | .int i, .int j => ifB (smallI i || smallI j) (rI' (i * j))
  | .tup l, .int k => ifB (decide (1 ≤ k) && decide (k ≤ 1000) && decide (1 ≤ l.length) && decide (l.length ≤ 1000)) (some (.v (.tup (repD k.toNat l))))
  | .lds l, .int k => ifB (decide (1 ≤ k) && decide (k ≤ 1000) && decide (l.length ≤ 1000)) (some (.v (.lds (repD k.toNat l))))
  | .lst l, .int k => ifB (decide (-(2 ^ 63) ≤ k) && decide (k < 2 ^ 63) && fitN (l.length * k.toNat)) (some (.ol (repD k.toNat l)))
  | _, _ => none
def rMulD (K : PySem.W.Frag) : R2 := fun x y H Q => ((((rI CMul (fun i j => .int (i * j)) x y H Q ∨ rRepT K x y H Q) ∨ rRep1 K x y H Q) ∨ rRep x y H Q) ∨ rRepK K x y H Q) ∨ rRepS K x y H Q
theorem op_mulD : OpR X (binaryOp .Mult) (rMulD X.K) := OpR.or (OpR.or (OpR.or (OpR.or (OpR.or op_mul op_repT) op_rep1) op_rep) op_repK) op_repS
theorem od_mul : OpD G (rMulD K) gMul := by
  intro σ s ow ow0 H H0 x y d1 d2 z Q ft E e0 v1 v2 hz F
  unfold gMul at hz
  split at hz
  · obtain ⟨h, hz⟩ := ifB_some hz
    cases hz
    refine .inl (.inl (.inl (.inl (.inl ⟨_, _, v1.int, v2.int, ?_, F.int E⟩))))
    rcases Bool.or_eq_true_iff.mp h with h | h
    · exact .inl (smallI_of h)
    · exact .inr (smallI_of h)
  · obtain ⟨h, hz⟩ := ifB_some hz
    cases hz
    simp only [Bool.and_eq_true, decide_eq_true_eq] at h
    obtain ⟨⟨⟨h1, h2⟩, h3⟩, h4⟩ := h
    obtain ⟨a, xs, rfl, t1, r1⟩ := v1.tup
    have hl := r1.length
    rename_i l k
    by_cases hk : k = 1
    · subst hk
      refine .inl (.inl (.inl (.inr ⟨a, xs, rfl, v2.int, t1.sq, ?_⟩)))
      have e : repD (1 : Int).toNat l = l := by show repD 1 l = l; unfold repD; simp
      rw [e] at F
      exact F.pure E (by rw [Rep]; exact ⟨a, xs, rfl, t1, r1⟩)
    · refine .inl (.inl (.inl (.inl (.inr ⟨a, k, xs, rfl, v2.int, t1.sq, fun z => by subst z; simp at hl; omega, by omega, h2, by omega, fun p hp => F.tup E hp (r1.rep _)⟩))))
  · obtain ⟨h, hz⟩ := ifB_some hz
    cases hz
    simp only [Bool.and_eq_true, decide_eq_true_eq] at h
    obtain ⟨⟨h1, h2⟩, h4⟩ := h
    obtain ⟨a, xs, rfl, t1, r1⟩ := v1.lds
    have hl := r1.length
    rename_i l k
    by_cases hs : xs = [] ∨ k = 1
    · have e : repD k.toNat l = l := by
        unfold repD
        rcases hs with rfl | rfl
        · have : l = [] := List.eq_nil_of_length_eq_zero hl.symm
          subst this
          simp
        · show (List.replicate 1 l).flatten = l
          simp
      rw [e] at F
      exact .inr ⟨a, _, xs, rfl, v2.int, t1.sq, hs, by omega, h2, F.pure E (by rw [Rep]; exact ⟨a, xs, rfl, t1, r1⟩)⟩
    · exact .inl (.inr ⟨a, _, xs, rfl, v2.int, t1.sq, fun z => hs (.inl z), by omega, h2, by omega, fun p o hp od => F.lds E hp od (r1.rep _)⟩)
  · obtain ⟨h, hz⟩ := ifB_some hz
    cases hz
    simp only [Bool.and_eq_true, decide_eq_true_eq] at h
    obtain ⟨⟨h1, h2⟩, h3⟩ := h
    obtain ⟨a, xs, rfl, t1, r1⟩ := v1
    exact .inl (.inl (.inr ⟨a, _, xs, rfl, v2.int, t1, h1, h2, by rw [r1.length]; exact fitN_le h3, fun p hp => F.lst E e0 hp (r1.rep _)⟩))
  · cases hz
def gFdiv : DOp := gI fun i j => ifB (decide (j ≠ 0) && decide (j.natAbs < 1073741824)) (rI' (i.fdiv j))
theorem od_fdiv : OpD G (rI CDivN fun i j => .int (i.fdiv j)) gFdiv := by
  intro σ s ow ow0 H H0 x y d1 d2 z Q ft E e0 v1 v2 hz F
  obtain ⟨i, j, rfl, rfl, hz⟩ := gI_some hz
  obtain ⟨h, hz⟩ := ifB_some hz
  cases hz
  simp only [Bool.and_eq_true, decide_eq_true_eq] at h
  exact ⟨i, j, v1.int, v2.int, h, F.int E⟩
def gMod : DOp := gI fun i j => ifB (decide (j ≠ 0)) (rI' (i.fmod j))
theorem od_mod : OpD G (rI (fun _ j => j ≠ 0) fun i j => .int (i.fmod j)) gMod := by
  intro σ s ow ow0 H H0 x y d1 d2 z Q ft E e0 v1 v2 hz F
  obtain ⟨i, j, rfl, rfl, hz⟩ := gI_some hz
  obtain ⟨h, hz⟩ := ifB_some hz
  cases hz
  exact ⟨i, j, v1.int, v2.int, of_decide_eq_true h, F.int E⟩
def gPow : DOp := gI fun i j => ifB (decide (0 ≤ j) && decide (j ≤ 1000) && decide (i.natAbs < 2 ^ 64)) (rI' (i ^ j.toNat))
theorem od_pow : OpD G (rI CPow fun i j => .int (i ^ j.toNat)) gPow := by
  intro σ s ow ow0 H H0 x y d1 d2 z Q ft E e0 v1 v2 hz F
  obtain ⟨i, j, rfl, rfl, hz⟩ := gI_some hz
  obtain ⟨h, hz⟩ := ifB_some hz
  cases hz
  simp only [Bool.and_eq_true, decide_eq_true_eq] at h
  exact ⟨i, j, v1.int, v2.int, ⟨h.1.1, by omega, h.2⟩, F.int E⟩
def gNeg : D → Option Rv := fun d => match d with
  | .int i => rI' (-i)
  | _ => none
theorem ud_neg : UnD G (rU fun i => .int (-i)) gNeg := by
  intro σ s ow ow0 H H0 x d1 z Q ft E e0 v1 hz F
  unfold gNeg at hz
  split at hz
  · cases hz
    exact ⟨_, v1.int, F.int E⟩
  · cases hz

/-! ### is None, is True -/
def isNonD : D → Bool
  | .non => true
  | _ => false
def gIsN : DOp := fun d e => match d, e with
  | d, .non => rB (isNonD d)
  | .bl a, .bl b => rB (decide (a = b))
  | _, _ => none
def gNotN : DOp := fun d e => match gIsN d e with
  | some (.v (.bl b)) => rB (!b)
  | _ => none
theorem RepV.not_non {H : Hp} {ow : OW} {d : D} {v : V} (h : RepV G H ow d v) (n : d ≠ .non) : v ≠ .non := by
  intro e
  subst e
  cases d with
  | non => exact n rfl
  | bl b => have := h.bl; cases this
  | int b => have := h.int; cases this
  | str b => have := h.str; cases this
  | tup l => obtain ⟨_, _, q, _⟩ := h.tup; cases q
  | lst l => obtain ⟨_, _, q, _⟩ := h; cases q
  | dic tb ks vs => obtain ⟨_, _, q, _⟩ := h; cases q
  | exc k d => have h' : Rep G H ow (.exc k d) .non := h; rw [Rep] at h'; obtain ⟨_, _, q, _⟩ := h'; cases q
  | obj k => have h' : Rep G H ow (.obj k) .non := h; rw [Rep] at h'; obtain ⟨_, q, _⟩ := h'; cases q
  | dr => have h' : Rep G H ow .dr .non := h; rw [Rep] at h'; obtain ⟨_, q, _⟩ := h'; cases q
  | fn k => have h' : Rep G H ow (.fn k) .non := h; rw [Rep] at h'; cases h'
  | clo f c q ds vs => have h' : Rep G H ow (.clo f c q ds vs) .non := h; rw [Rep] at h'; obtain ⟨q, _⟩ := h'; cases q
  | scr k => have h' : Rep G H ow (.scr k) .non := h; rw [Rep] at h'; obtain ⟨_, q, _⟩ := h'; cases q
  | lds l => obtain ⟨_, _, q, _⟩ := h.lds; cases q
def rIsD (neg : Bool) : R2 := fun x y H Q => (y = .non ∧ Q (.bl (if neg then !decide (x = .non) else decide (x = .non))) H) ∨ (∃ a b, x = .bl a ∧ y = .bl b ∧ Q (.bl (if neg then !decide (a = b) else decide (a = b))) H)
theorem op_isD : OpR X (compareOp .Is) (rIsD false) := OpR.or op_isN op_is_bl
theorem op_isnotD : OpR X (compareOp .IsNot) (rIsD true) := OpR.or op_notN op_isnot_bl
theorem gIsN_some {d e : D} {z : Rv} (h : gIsN d e = some z) : (e = .non ∧ z = .v (.bl (isNonD d))) ∨ ∃ a b, d = .bl a ∧ e = .bl b ∧ z = .v (.bl (decide (a = b))) := by
  unfold gIsN at h
  split at h
  · cases h; exact .inl ⟨rfl, rfl⟩
  · cases h; exact .inr ⟨_, _, rfl, rfl, rfl⟩
  · cases h
theorem RepV.isNon {H : Hp} {ow : OW} {d : D} {x : V} (v1 : RepV G H ow d x) : decide (x = V.non) = isNonD d := by
  cases d with
  | non => rw [v1.non]; rfl
  | _ => exact decide_eq_false (v1.not_non (by intro z; cases z))
theorem od_is : OpD G (rIsD false) gIsN := by
  intro σ s ow ow0 H H0 x y d1 d2 z Q ft E e0 v1 v2 hz F
  rcases gIsN_some hz with ⟨rfl, rfl⟩ | ⟨a, b, rfl, rfl, rfl⟩
  · refine .inl ⟨v2.non, ?_⟩
    rw [if_neg Bool.false_ne_true, v1.isNon]
    exact F.bl E
  · exact .inr ⟨a, b, v1.bl, v2.bl, F.bl E⟩
theorem od_isnot : OpD G (rIsD true) gNotN := by
  intro σ s ow ow0 H H0 x y d1 d2 z Q ft E e0 v1 v2 hz F
  unfold gNotN at hz
  split at hz
  · rename_i b hg
    cases hz
    rcases gIsN_some hg with ⟨rfl, hb⟩ | ⟨a, c, rfl, rfl, hb⟩
    · cases hb
      refine .inl ⟨v2.non, ?_⟩
      rw [if_pos rfl, v1.isNon]
      exact F.bl E
    · cases hb
      exact .inr ⟨a, c, v1.bl, v2.bl, F.bl E⟩
  · cases hz
end
end DL
namespace DL
open PySem PySem.Spec PyProof.Rows L2

/-! ### dicts by data -/
def leafD : D → Bool
  | .int _ => true
  | .str _ => true
  | _ => false
def keyOkD (tb : Bool) (d : D) : Bool := match tb with
  | false => leafD d
  | true => match d with
    | .tup l => l.all leafD
    | _ => false
def lookL : List D → List D → D → Option D
  | k :: ks, v :: vs, d => match eqD k d with
    | true => some v
    | false => lookL ks vs d
  | _, _, _ => none
theorem leaf_key {d : D} (h : leafD d = true) : ∃ k : Key, d = keyD k := by
  cases d with
  | int i => exact ⟨.inl i, rfl⟩
  | str s => exact ⟨.inr s, rfl⟩
  | _ => cases h
theorem leaf_keys : ∀ {l : List D}, l.all leafD = true → ∃ k : List Key, l = k.map keyD
  | [], _ => ⟨[], rfl⟩
  | d :: l, h => by
    rw [List.all_cons, Bool.and_eq_true] at h
    obtain ⟨k, rfl⟩ := leaf_key h.1
    obtain ⟨ks, rfl⟩ := leaf_keys h.2
    exact ⟨k :: ks, rfl⟩
theorem eqD_key (a b : Key) : eqD (keyD a) (keyD b) = decide (a = b) := by
  cases a with
  | inl i =>
    cases b with
    | inl j =>
      show (i == j) = _
      by_cases e : i = j
      · subst e; simp
      · rw [decide_eq_false (by intro z; exact e (Sum.inl.inj z))]; exact beq_eq_false_iff_ne.mpr e
    | inr j => show eqD (.int i) (.str j) = _; rw [decide_eq_false (by intro z; cases z)]; simp [eqD]
  | inr i =>
    cases b with
    | inl j => show eqD (.str i) (.int j) = _; rw [decide_eq_false (by intro z; cases z)]; simp [eqD]
    | inr j =>
      show eqD (.str i) (.str j) = _
      simp only [eqD]
      by_cases e : i = j
      · subst e; simp
      · rw [decide_eq_false (by intro z; exact e (Sum.inr.inj z))]; exact beq_eq_false_iff_ne.mpr e
theorem eqL_keys : ∀ (a b : List Key), eqL (a.map keyD) (b.map keyD) = decide (a = b)
  | [], [] => by simp [eqL]
  | [], _ :: _ => by simp [eqL]
  | _ :: _, [] => by simp [eqL]
  | x :: a, y :: b => by
    simp only [List.map_cons, eqL]
    rw [eqD_key, eqL_keys a b]
    by_cases e1 : x = y <;> by_cases e2 : a = b <;> simp [e1, e2]
theorem eqD_tkey (a b : List Key) : eqD (.tup (a.map keyD)) (.tup (b.map keyD)) = decide (a = b) := by
  simp only [eqD]; exact eqL_keys a b
theorem valV_cons {κ : Type} [DecidableEq κ] (p : κ × V) (r : List (κ × V)) (k : κ) : valV (p :: r) k = if p.1 = k then some p.2 else valV r k := by
  by_cases e : p.1 = k
  · rw [if_pos e, valV_pos e]
  · rw [if_neg e, valV_neg e]
section
variable {G : GT} {H : Hp} {ow : OW}
def RepO (G : GT) (H : Hp) (ow : OW) : Option D → Option V → Prop
  | none, o => o = none
  | some d, o => ∃ v, o = some v ∧ Rep G H ow d v
theorem RepO.isSome {o1 : Option D} {o2 : Option V} (h : RepO G H ow o1 o2) : o1.isSome = o2.isSome := by
  cases o1 with
  | none => rw [show o2 = none from h]; rfl
  | some d => obtain ⟨v, rfl, _⟩ := h; rfl
theorem look_gen {κ : Type} [DecidableEq κ] (kd : κ → D) (hk : ∀ a b, eqD (kd a) (kd b) = decide (a = b)) (k : κ) : ∀ (l : List (κ × V)) (vs : List D), RepL G H ow vs (l.map (·.2)) → RepO G H ow (lookL (l.map fun p => kd p.1) vs (kd k)) (valV l k)
  | [], vs, h => by cases vs <;> exact rfl
  | p :: l, vs, h => by
    cases vs with
    | nil => rw [RepL] at h; cases h
    | cons d vs =>
      rw [RepL] at h
      obtain ⟨x, r, e, q1, q2⟩ := h
      rw [List.map_cons] at e
      obtain ⟨rfl, rfl⟩ := List.cons.inj e
      simp only [List.map_cons, lookL]
      rw [hk, valV_cons]
      by_cases z : p.1 = k
      · rw [decide_eq_true z, if_pos z]; exact ⟨_, rfl, q1⟩
      · rw [decide_eq_false z, if_neg z]; exact look_gen kd hk k l vs q2
theorem keyV_of {k : Key} {v : V} (h : Rep G H ow (keyD k) v) : v = kV k := by
  cases k with
  | inl i => have h' : Rep G H ow (.int i) v := h; rw [Rep] at h'; exact h'
  | inr i => have h' : Rep G H ow (.str i) v := h; rw [Rep] at h'; exact h'
theorem keysV_of : ∀ {k : List Key} {xs : List V}, RepL G H ow (k.map keyD) xs → xs = k.map kV
  | [], xs, h => by have h' : RepL G H ow [] xs := h; rw [RepL] at h'; exact h'
  | k :: ks, xs, h => by
    rw [List.map_cons, RepL] at h
    obtain ⟨x, r, rfl, q1, q2⟩ := h
    rw [keyV_of q1, keysV_of q2]; rfl
theorem look_ok {tb : Bool} {ks vs : List D} {a : Addr} {xs : List V} (t : DicAt H a tb ks xs) (r : RepL G H ow vs xs) {d : D} {y : V} (hy : RepV G H ow d y) (hk : keyOkD tb d = true) : ∃ o, DGet H a y o ∧ RepO G H ow (lookL ks vs d) o := by
  cases tb with
  | false =>
    obtain ⟨l, h, rfl, rfl⟩ := t
    obtain ⟨k, rfl⟩ := leaf_key hk
    have e : y = kV k := by cases k <;> first | exact hy.int | exact hy.str
    subst e
    exact ⟨_, DGet.k h, look_gen keyD eqD_key k l vs r⟩
  | true =>
    obtain ⟨l, h, rfl, rfl⟩ := t
    cases d with
    | tup m =>
      obtain ⟨k, rfl⟩ := leaf_keys hk
      obtain ⟨b, zs, rfl, t2, r2⟩ := hy.tup
      have := keysV_of r2
      subst this
      exact ⟨_, DGet.t h t2.2, look_gen (fun k => D.tup (k.map keyD)) eqD_tkey k l vs r⟩
    | _ => cases hk
end
def hasL : List D → D → Bool
  | [], _ => false
  | k :: ks, d => match eqD k d with
    | true => true
    | false => hasL ks d
def replL : List D → List D → D → D → List D
  | k :: ks, v :: vs, d, e => (match eqD k d with | true => e | false => v) :: replL ks vs d e
  | _, vs, _, _ => vs
/-- d[k] = v on the lists: in its place, or at the end -/
def putL (ks vs : List D) (d e : D) : List D × List D := match hasL ks d with
  | true => (ks, replL ks vs d e)
  | false => (ks ++ [d], vs ++ [e])

/-! ### d[k], t[i], s[i] -/
def gIx : DOp := fun d e => match d with
  | .tup l => match e with
    | .int i => (atI l i).map .v
    | _ => none
  | .lst l => match e with
    | .int i => (atI l i).map .v
    | _ => none
  | .lds l => match e with
    | .int i => (atI l i).map .v
    | _ => none
  | .str z => match e with
    | .int i => ifB (fitN z.length) ((atI z.cps.toList i).map fun c => .v (.str ⟨#[c]⟩))
    | _ => none
  | .dic tb ks vs => ifB (keyOkD tb e) ((lookL ks vs e).map .v)
  | _ => none
def rIxD' (K : PySem.W.Frag) : R2 := fun x y H Q => rIx K x y H Q ∨ ∃ a v, x = .ref a ∧ DGet H a y (some v) ∧ Q v H
section
variable {G : GT} {X : Cx} {K : PySem.W.Frag}
theorem ix_dic (hu : X.A.units + 1 < cLine) : IxR X (fun x y H Q => ∃ a v, x = .ref a ∧ DGet H a y (some v) ∧ Q v H) := by
  intro value slice pins s σ H x y v u Q I rx ry h hs
  obtain ⟨a, w, rfl, g, q⟩ := h
  cases rx
  exact tail_any (dict_typeIs I g) PySem.F.slot_dict_getitem.lookup (d_getItem hu I g ry fun w' s3 I3 rw' => ⟨w, H, I3, rw', q⟩) hs
theorem ix_all (hu : X.A.units + 1 < cLine) : IxR X (rIxD' X.K) := IxR.or ix_seq (ix_dic hu)
theorem atI_len {α β : Type} {l : List α} {m : List β} (e : l.length = m.length) {i : Int} {a : α} (h : atI l i = some a) : ∃ j, ixN m.length i = some j ∧ l[j]? = some a := by
  unfold atI at h
  rw [e] at h
  cases q : ixN m.length i with
  | none => rw [q] at h; cases h
  | some j => rw [q] at h; exact ⟨j, rfl, h⟩
theorem atI_rep {H : Hp} {ow : OW} {l : List D} {xs : List V} (r : RepL G H ow l xs) {i : Int} {d : D} (h : atI l i = some d) : ∃ v, atI xs i = some v ∧ Rep G H ow d v := by
  obtain ⟨j, e1, e2⟩ := atI_len r.length.symm h
  obtain ⟨x, h1, h2⟩ := r.get e2
  exact ⟨x, by unfold atI; rw [e1]; exact h1, h2⟩
theorem od_ix : OpD G (rIxD' K) gIx := by
  intro σ s ow ow0 H H0 x y d1 d2 z Q ft E e0 v1 v2 hz F
  unfold gIx at hz
  split at hz
  · split at hz
    · obtain ⟨d, h, rfl⟩ := Option.map_eq_some_iff.mp hz
      obtain ⟨a, xs, rfl, t, r⟩ := v1.tup
      obtain ⟨v, h1, h2⟩ := atI_rep r h
      exact .inl (.inr (.inl ⟨a, xs, _, v, rfl, v2.int, t.sq, h1, F.pure E h2⟩))
    · cases hz
  · split at hz
    · obtain ⟨d, h, rfl⟩ := Option.map_eq_some_iff.mp hz
      obtain ⟨a, xs, rfl, t, r⟩ := v1
      obtain ⟨v, h1, h2⟩ := atI_rep r h
      exact .inl (.inl ⟨a, xs, _, v, rfl, v2.int, sqL_of t, h1, F.pure E h2⟩)
    · cases hz
  · split at hz
    · obtain ⟨d, h, rfl⟩ := Option.map_eq_some_iff.mp hz
      obtain ⟨a, xs, rfl, t, r⟩ := v1.lds
      obtain ⟨v, h1, h2⟩ := atI_rep r h
      exact .inl (.inr (.inl ⟨a, xs, _, v, rfl, v2.int, t.sq, h1, F.pure E h2⟩))
    · cases hz
  · split at hz
    · obtain ⟨hf, hz⟩ := ifB_some hz
      obtain ⟨c, h, rfl⟩ := Option.map_eq_some_iff.mp hz
      exact .inl (.inr (.inr ⟨_, _, c, v1.str, v2.int, fitN_le hf, h, F.str E⟩))
    · cases hz
  · obtain ⟨hk, hz⟩ := ifB_some hz
    obtain ⟨d, h, rfl⟩ := Option.map_eq_some_iff.mp hz
    obtain ⟨a, xs, rfl, t, r⟩ := v1
    obtain ⟨o, h1, h2⟩ := look_ok t r v2 hk
    rw [h] at h2
    obtain ⟨v, rfl, h2⟩ := h2
    exact .inr ⟨a, v, rfl, h1, F.pure E h2⟩
  · cases hz

/-! ### in, not in -/
def anyEq (l : List D) (d : D) : Bool := l.any fun z => eqD z d
def gIn : DOp := fun d e => match e with
  | .lst l => ifB (okE 60 d && okEL 60 l) (rB (anyEq l d))
  | .tup l => ifB (okE 60 d && okEL 60 l) (rB (anyEq l d))
  | .dic tb ks vs => ifB (keyOkD tb d) (rB (lookL ks vs d).isSome)
  | .str z => match d with
    | .str y => rB (!(Builtin.Str.occurrences z y 0 z.length 1).isEmpty)
    | _ => none
  | _ => none
def gNotIn : DOp := fun d e => match gIn d e with
  | some (.v (.bl b)) => rB (!b)
  | _ => none
def rInTD (K : PySem.W.Frag) (neg : Bool) : R2 := fun x y H Q => ∃ d ds, Dp K H x d ∧ Dp K H y (.tuple ds) ∧ SeqAt.shaped d = true ∧ SeqAt.shaped (.tuple ds) = true ∧ Q (.bl (if neg then !(ds.any fun z => PyData.eqv z d) else (ds.any fun z => PyData.eqv z d))) H
theorem op_inTD (hu : X.A.units + 65 < cLine) : OpR X (compareOp .In) (rInTD X.K false) := by
  intro pins s σ H x y v u Q I rx ry h
  obtain ⟨d, ds, hx, hy, hd, hs, q⟩ := h
  obtain ⟨l1, r1⟩ := Dp.reads I d x v hx rx
  obtain ⟨l2, r2⟩ := Dp.reads I (.tuple ds) y u hy ry
  have room : X.A.units + 1 + min (PyData.depthAll ds) d.depth < cLine := by
    have h1 := SeqAt.depth_of_shaped hd
    have h2 : min (PyData.depthAll ds) d.depth ≤ d.depth := Nat.min_le_right _ _
    omega
  have hc : PyData.canLayAll0 ds = true := by have z := SeqAt.canLay_of_shaped hs; simpa only [PyData.canLay0] using z
  exact SeqAt.in_tuple_reads r2 r1 hc (SeqAt.canLay_of_shaped hd) room ⟨.bl _, H, I, rfl, q⟩
theorem op_notInTD (hu : X.A.units + 65 < cLine) : OpR X (compareOp .NotIn) (rInTD X.K true) := by
  intro pins s σ H x y v u Q I rx ry h
  obtain ⟨d, ds, hx, hy, hd, hs, q⟩ := h
  obtain ⟨l1, r1⟩ := Dp.reads I d x v hx rx
  obtain ⟨l2, r2⟩ := Dp.reads I (.tuple ds) y u hy ry
  have room : X.A.units + 1 + min (PyData.depthAll ds) d.depth < cLine := by
    have h1 := SeqAt.depth_of_shaped hd
    have h2 : min (PyData.depthAll ds) d.depth ≤ d.depth := Nat.min_le_right _ _
    omega
  have hc : PyData.canLayAll0 ds = true := by have z := SeqAt.canLay_of_shaped hs; simpa only [PyData.canLay0] using z
  exact SeqAt.notIn_tuple_reads r2 r1 hc (SeqAt.canLay_of_shaped hd) room ⟨.bl _, H, I, rfl, q⟩
def rInDic (neg : Bool) : R2 := fun x y H Q => ∃ a o, y = .ref a ∧ DGet H a x o ∧ Q (.bl (if neg then !o.isSome else o.isSome)) H
theorem op_inDic (hu : X.A.units + 1 < cLine) : OpR X (compareOp .In) (rInDic false) := by
  intro pins s σ H x y v u Q I rx ry h
  obtain ⟨a, o, rfl, g, q⟩ := h
  cases ry
  exact d_in hu I g rx fun s3 I3 => ⟨.bl o.isSome, H, I3, rfl, q⟩
theorem op_notInDic (hu : X.A.units + 1 < cLine) : OpR X (compareOp .NotIn) (rInDic true) := by
  intro pins s σ H x y v u Q I rx ry h
  obtain ⟨a, o, rfl, g, q⟩ := h
  cases ry
  exact d_notIn hu I g rx fun s3 I3 => ⟨.bl (!o.isSome), H, I3, rfl, q⟩
def rInAll (K : PySem.W.Frag) : R2 := fun x y H Q => ((rInD K x y H Q ∨ rInTD K false x y H Q) ∨ rInDic false x y H Q) ∨ (∃ i j, x = .str i ∧ y = .str j ∧ Q (.bl (!(Builtin.Str.occurrences j i 0 j.length 1).isEmpty)) H)
def rNotInAll (K : PySem.W.Frag) : R2 := fun x y H Q => ((rNotInD K x y H Q ∨ rInTD K true x y H Q) ∨ rInDic true x y H Q) ∨ (∃ i j, x = .str i ∧ y = .str j ∧ Q (.bl (!(!(Builtin.Str.occurrences j i 0 j.length 1).isEmpty))) H)
theorem op_inAll (hu : X.A.units + 65 < cLine) : OpR X (compareOp .In) (rInAll X.K) := OpR.or (OpR.or (OpR.or (op_inD hu) (op_inTD hu)) (op_inDic (by omega))) op_in_str
theorem op_notInAll (hu : X.A.units + 65 < cLine) : OpR X (compareOp .NotIn) (rNotInAll X.K) := OpR.or (OpR.or (OpR.or (op_notInD hu) (op_notInTD hu)) (op_notInDic (by omega))) op_notin_str
theorem anyEq_py : ∀ {n m : Nat} {d : D} (l : List D), okE m d = true → okEL n l = true → anyEq l d = (pyL l).any fun z => PyData.eqv z (pyOf d)
  | _, _, _, [], _, _ => by simp [anyEq, pyL]
  | n, m, d, x :: l, h, k => by
    simp only [okEL, Bool.and_eq_true] at k
    have ih := anyEq_py l h k.2
    unfold anyEq at ih ⊢
    rw [List.any_cons, ih, eqD_py n m x d k.1 h]
    simp [pyL]
theorem okE_up : ∀ {n m : Nat} {d : D}, n ≤ m → okE n d = true → okE m d = true := by
  have main : ∀ n d, (okE n d = true → ∀ m, n ≤ m → okE m d = true) := by
    intro n d
    revert n
    refine D.rec (motive_1 := fun d => ∀ n, okE n d = true → ∀ m, n ≤ m → okE m d = true) (motive_2 := fun l => ∀ n, okEL n l = true → ∀ m, n ≤ m → okEL m l = true) ?_ ?_ ?_ ?_ ?_ ?_ ?_ ?_ ?_ ?_ ?_ ?_ ?_ ?_ ?_ ?_ d
    · intro n h m hm; cases m <;> rfl
    · intro b n h m hm; cases m <;> rfl
    · intro i n h m hm; cases m <;> rfl
    · intro x n h m hm
      have : PyData.strOk x = true := by cases n <;> exact h
      cases m <;> exact this
    · intro l ih n h m hm
      cases n with
      | zero => simp [okE] at h
      | succ n =>
        cases m with
        | zero => omega
        | succ m => simp only [okE] at h ⊢; exact ih n h m (by omega)
    · intro l ih n h m hm
      cases n with
      | zero => simp [okE] at h
      | succ n =>
        cases m with
        | zero => omega
        | succ m => simp only [okE] at h ⊢; exact ih n h m (by omega)
    · intro tb ks vs _ _ n h; cases n <;> simp [okE] at h
    · intro k d _ n h; cases n <;> simp [okE] at h
    · intro k n h; cases n <;> simp [okE] at h
    · intro n h; cases n <;> simp [okE] at h
    · intro k n h; cases n <;> simp [okE] at h
    · intro l ih n h m hm
      cases n with
      | zero => simp [okE] at h
      | succ n =>
        cases m with
        | zero => omega
        | succ m => simp only [okE] at h ⊢; exact ih n h m (by omega)
    · intro k n h; cases n <;> simp [okE] at h
    · intro f c q ds vs _ n h; cases n <;> simp [okE] at h
    · intro n h m hm; rfl
    · intro d l ih1 ih2 n h m hm
      simp only [okEL, Bool.and_eq_true] at h ⊢
      exact ⟨ih1 n h.1 m hm, ih2 n h.2 m hm⟩
  exact fun {n m d} hm h => main n d h m hm
theorem gIn_list {l : List D} {d : D} (h : (okE 60 d && okEL 60 l) = true) : SeqAt.shaped (pyOf d) = true ∧ okE 61 (.lst l) = true ∧ okE 61 (.tup l) = true ∧ SeqAt.shaped (.list (pyL l)) = true ∧ SeqAt.shaped (.tuple (pyL l)) = true ∧ anyEq l d = (pyL l).any fun z => PyData.eqv z (pyOf d) := by
  obtain ⟨h1, h2⟩ := Bool.and_eq_true_iff.mp h
  have k1 : okE 61 (.lst l) = true := by simp only [okE]; exact h2
  have k2 : okE 61 (.tup l) = true := by simp only [okE]; exact h2
  have z1 : SeqAt.shaped (.list (pyL l)) = true := by have z := okE_shaped (okE_up (by decide : 61 ≤ 64) k1); simpa only [pyOf] using z
  have z2 : SeqAt.shaped (.tuple (pyL l)) = true := by have z := okE_shaped (okE_up (by decide : 61 ≤ 64) k2); simpa only [pyOf] using z
  exact ⟨okE_shaped (okE_up (by decide) h1), k1, k2, z1, z2, anyEq_py l h1 h2⟩
theorem od_in : OpD G (rInAll K) gIn := by
  intro σ s ow ow0 H H0 x y d1 d2 z Q ft E e0 v1 v2 hz F
  unfold gIn at hz
  split at hz
  · obtain ⟨h, hz⟩ := ifB_some hz
    cases hz
    obtain ⟨k1, k2, _, k4, _, k6⟩ := gIn_list h
    have q := RepV.dp (K := K) k2 v2
    rw [pyOf] at q
    refine .inl (.inl (.inl ⟨_, _, RepV.dp (Bool.and_eq_true_iff.mp h).1 v1, q, k1, k4, ?_⟩))
    rw [← k6]; exact F.bl E
  · obtain ⟨h, hz⟩ := ifB_some hz
    cases hz
    obtain ⟨k1, _, k3, _, k5, k6⟩ := gIn_list h
    have q := RepV.dp (K := K) k3 v2
    rw [pyOf] at q
    refine .inl (.inl (.inr ⟨_, _, RepV.dp (Bool.and_eq_true_iff.mp h).1 v1, q, k1, k5, ?_⟩))
    rw [if_neg Bool.false_ne_true, ← k6]; exact F.bl E
  · obtain ⟨hk, hz⟩ := ifB_some hz
    cases hz
    obtain ⟨a, xs, rfl, t, r⟩ := v2
    obtain ⟨o, h1, h2⟩ := look_ok t r v1 hk
    refine .inl (.inr ⟨a, o, rfl, h1, ?_⟩)
    rw [if_neg Bool.false_ne_true]
    rw [← h2.isSome]; exact F.bl E
  · split at hz
    · cases hz
      exact .inr ⟨_, _, v1.str, v2.str, F.bl E⟩
    · cases hz
  · cases hz
theorem od_notin : OpD G (rNotInAll K) gNotIn := by
  intro σ s ow ow0 H H0 x y d1 d2 z Q ft E e0 v1 v2 hz F
  obtain ⟨b, hg, rfl⟩ : ∃ b, gIn d1 d2 = some (.v (.bl b)) ∧ z = .v (.bl (!b)) := by
    unfold gNotIn at hz
    split at hz
    · rename_i b hg
      cases hz
      exact ⟨b, hg, rfl⟩
    · cases hz
  unfold gIn at hg
  split at hg
  · obtain ⟨h, hz⟩ := ifB_some hg
    cases hz
    obtain ⟨k1, k2, _, k4, _, k6⟩ := gIn_list h
    have q := RepV.dp (K := K) k2 v2
    rw [pyOf] at q
    refine .inl (.inl (.inl ⟨_, _, RepV.dp (Bool.and_eq_true_iff.mp h).1 v1, q, k1, k4, ?_⟩))
    rw [← k6]; exact F.bl E
  · obtain ⟨h, hz⟩ := ifB_some hg
    cases hz
    obtain ⟨k1, _, k3, _, k5, k6⟩ := gIn_list h
    have q := RepV.dp (K := K) k3 v2
    rw [pyOf] at q
    refine .inl (.inl (.inr ⟨_, _, RepV.dp (Bool.and_eq_true_iff.mp h).1 v1, q, k1, k5, ?_⟩))
    rw [if_pos rfl, ← k6]; exact F.bl E
  · obtain ⟨hk, hz⟩ := ifB_some hg
    cases hz
    obtain ⟨a, xs, rfl, t, r⟩ := v2
    obtain ⟨o, h1, h2⟩ := look_ok t r v1 hk
    refine .inl (.inr ⟨a, o, rfl, h1, ?_⟩)
    rw [if_pos rfl]
    rw [← h2.isSome]; exact F.bl E
  · split at hg
    · cases hg
      exact .inr ⟨_, _, v1.str, v2.str, F.bl E⟩
    · cases hg
  · cases hg
end
end DL
namespace DL
open PySem PySem.Spec PyProof.Rows L2

/-! ### built-in functions by data -/
def Cal1 (G : GT) (r : List V → Hp → VK → Prop) (g : D → Option Rv) : Prop :=
  ∀ {σ : L2.St} {s : Sd} {ow ow0 : OW} {H H0 : Hp} {x : V} {d1 : D} {z : Rv} {Q : VK}, Fits H → ER G ow H σ s → Ext ow0 H0 ow H → RepV G H ow d1 x → g d1 = some z → Fin G σ s ow H H0 z Q → r [x] H Q
def Cal2 (G : GT) (r : List V → Hp → VK → Prop) (g : DOp) : Prop :=
  ∀ {σ : L2.St} {s : Sd} {ow ow0 : OW} {H H0 : Hp} {x y : V} {d1 d2 : D} {z : Rv} {Q : VK}, Fits H → ER G ow H σ s → Ext ow0 H0 ow H → RepV G H ow d1 x → RepV G H ow d2 y → g d1 d2 = some z → Fin G σ s ow H H0 z Q → r [x, y] H Q
theorem CallR.fit {X : Cx} {f : Value} {r : List V → Hp → VK → Prop} (h : CallR X f r) : CallR X f (fun xs H Q => Fits H → r xs H Q) :=
  fun pins s σ H xs us Q I rx q => h pins s σ H xs us Q I rx (q (fits_of I))
section
variable {G : GT} {X : Cx} {W : WX} {a b e : Expr} {x : Str} {p pos : Pos} {ta tb : DE} {id T : String} {r : List V → Hp → VK → Prop} {K : PySem.W.Frag}
theorem dcal1_ok {g : D → Option Rv} (hf : Cal1 G r g) {σ : L2.St} {H : Hp} {Q : VK} (h : liftE G W (dUn g ta) σ H Q) : tCB (fun xs H Q => Fits H → r xs H Q) (tCons (liftE G W ta) tNil) σ H Q := by
  obtain ⟨ow, s, Qd, Ed, E, t, hQ, hE⟩ := h
  refine ⟨ow, s, _, Ed, E, t, fun r1 s1 q1 v H1 ow1 e1 E1 R1 => ?_, hE⟩
  obtain ⟨d1, h1, q1⟩ := bindO_some q1
  obtain ⟨z, hz, q1⟩ := bindO_some q1
  exact fun ft => hf ft E1 e1 (view_ok E1 R1 h1) hz fun v ow' H' e' E' R' => hQ _ _ q1 _ _ _ (e1.trans e') E' R'
theorem dcal2_ok {g : DOp} (hf : Cal2 G r g) {σ : L2.St} {H : Hp} {Q : VK} (h : liftE G W (dOp g ta tb) σ H Q) : tCB (fun xs H Q => Fits H → r xs H Q) (tCons (liftE G W ta) (tCons (liftE G W tb) tNil)) σ H Q := by
  obtain ⟨ow, s, Qd, Ed, E, t, hQ, hE⟩ := h
  refine ⟨ow, s, _, Ed, E, t, fun r1 s1 q1 v H1 ow1 e1 E1 R1 => ⟨ow1, s1, _, Ed, E1, q1, fun r2 s2 q2 v2 H2 ow2 e2 E2 R2 => ?_, hE.from e1⟩, hE⟩
  obtain ⟨d1, h1, q2⟩ := bindO_some q2
  obtain ⟨d2, h2, q2⟩ := bindO_some q2
  obtain ⟨z, hz, q2⟩ := bindO_some q2
  have R1' := R1.ext e2
  have R2' := R2.from e1
  exact fun ft => hf ft E2 (e1.trans e2) (view_ok E2 R1' h1) (view_ok E2 R2' h2) hz fun v ow' H' e' E' R' => hQ _ _ q2 _ _ _ ((e1.trans e2).trans e') E' R'
theorem pd_b1 {g : D → Option Rv} (hf : Cal1 G r g) (hc : CallR X (.builtin id) r) (hv : bootBuiltins x = some (.builtin id)) (hg : Gl X x) (hm : X.mg x = none) (ha : PD G X W a ta) (hn : x ≠ "__name__" := by decide) (hdb : (x == ("__debug__" : Str)) = false := by decide)
    (he : starEach [a] X.env = (false, eval a X.env) :: starEach [] X.env := by rfl) (hpl : (backTo pos (starEach [] X.env)).any (·.1) = false := by rfl) : PD G X W (.Call (.Name x p) [a] [] pos) (dUn g ta) :=
  ⟨PE.wk (pe_callB (CallR.fit hc) hg hm hv (pa_cons ha.pe pa_nil he) hn hdb he hpl) fun σ H Q _ h => dcal1_ok hf h⟩
theorem pd_t1 {g : D → Option Rv} (hf : Cal1 G r g) (hc : CallR X (.type T) r) (hv : bootBuiltins x = some (.type T)) (hg : Gl X x) (hm : X.mg x = none) (ha : PD G X W a ta) (hn : x ≠ "__name__" := by decide) (hdb : (x == ("__debug__" : Str)) = false := by decide)
    (he : starEach [a] X.env = (false, eval a X.env) :: starEach [] X.env := by rfl) (hpl : (backTo pos (starEach [] X.env)).any (·.1) = false := by rfl) : PD G X W (.Call (.Name x p) [a] [] pos) (dUn g ta) :=
  ⟨PE.wk (pe_callTy (CallR.fit hc) hg hm hv (pa_cons ha.pe pa_nil he) hn hdb he hpl) fun σ H Q _ h => dcal1_ok hf h⟩
theorem pd_b2 {g : DOp} (hf : Cal2 G r g) (hc : CallR X (.builtin id) r) (hv : bootBuiltins x = some (.builtin id)) (hg : Gl X x) (hm : X.mg x = none) (ha : PD G X W a ta) (hb : PD G X W b tb) (hn : x ≠ "__name__" := by decide) (hdb : (x == ("__debug__" : Str)) = false := by decide)
    (he : starEach [a, b] X.env = (false, eval a X.env) :: starEach [b] X.env := by rfl) (he2 : starEach [b] X.env = (false, eval b X.env) :: starEach [] X.env := by rfl) (hpl : (backTo pos (starEach [b] X.env)).any (·.1) = false := by rfl) : PD G X W (.Call (.Name x p) [a, b] [] pos) (dOp g ta tb) :=
  ⟨PE.wk (pe_callB (CallR.fit hc) hg hm hv (pa_cons ha.pe (pa_cons hb.pe pa_nil he2) he) hn hdb he hpl) fun σ H Q _ h => dcal2_ok hf h⟩

/-! len -/
def lenD : D → Option Nat
  | .tup l => some l.length
  | .lst l => some l.length
  | .lds l => some l.length
  | .str z => ifB (fitN z.length) (some z.length)
  | .dic _ ks _ => some ks.length
  | _ => none
def gLen : D → Option Rv := fun d => Option.map (fun (n : Nat) => Rv.v (.int (n : Int))) (lenD d)
def rLenAll (K : PySem.W.Frag) : List V → Hp → VK → Prop := fun xs H Q => ((∃ x n, xs = [x] ∧ LenV K x H n ∧ Q (.int n) H) ∨ (∃ a kvs, xs = [V.ref a] ∧ H a = some (.dK kvs) ∧ Q (.int kvs.length) H)) ∨ rLenT xs H Q
theorem call_lenAll : CallR X (.builtin "len") (rLenAll X.K) := CallR.or (CallR.or call_len call_lenD) call_len_dT
theorem cd_len : Cal1 G (rLenAll K) gLen := by
  intro σ s ow ow0 H H0 x d1 z Q ft E e0 v1 hz F
  obtain ⟨n, h, rfl⟩ := Option.map_eq_some_iff.mp hz
  cases d1 with
  | tup l =>
    cases h
    obtain ⟨a, xs, rfl, t, r⟩ := v1.tup
    exact .inl (.inl ⟨_, _, rfl, .inr ⟨xs, t.sq, r.length.symm⟩, F.int E⟩)
  | lst l =>
    cases h
    obtain ⟨a, xs, rfl, t, r⟩ := v1
    exact .inl (.inl ⟨_, _, rfl, .inl ⟨xs, sqL_of t, r.length.symm⟩, F.int E⟩)
  | lds l =>
    cases h
    obtain ⟨a, xs, rfl, t, r⟩ := v1.lds
    exact .inl (.inl ⟨_, _, rfl, .inr ⟨xs, t.sq, r.length.symm⟩, F.int E⟩)
  | str zz =>
    obtain ⟨hf, h⟩ := ifB_some (show ifB (fitN zz.length) (some zz.length) = some n from h)
    cases h
    rw [v1.str]
    exact .inl (.inl ⟨_, _, rfl, ⟨fitN_le hf, rfl⟩, F.int E⟩)
  | dic tb ks vs =>
    cases h
    obtain ⟨a, xs, rfl, t, r⟩ := v1
    cases tb with
    | false =>
      obtain ⟨l, hl, rfl, rfl⟩ := t
      rw [List.length_map] at F
      exact .inl (.inr ⟨a, l, rfl, hl, F.int E⟩)
    | true =>
      obtain ⟨l, hl, rfl, rfl⟩ := t
      rw [List.length_map] at F
      exact .inr ⟨a, l, rfl, hl, F.int E⟩
  | _ => cases h
/-- the script as one of the module's own lists -/
def ScrC (G : GT) (K : PySem.W.Frag) : Prop := G 1000002 = 1 → ∃ ns : List Int, ns.length = G 1000001 ∧ ∀ H, SqL K H (G 1000000) (ns.map V.int)
def gLenS : D → Option Rv
  | .scr n => some (.v (.int n))
  | _ => none
theorem cd_lenS (S : ScrC G K) : Cal1 G (rLenAll K) gLenS := by
  intro σ s ow ow0 H H0 x d1 z Q ft E e0 v1 hz F
  cases d1 with
  | scr n =>
    cases hz
    have v1' : Rep G H ow (.scr n) x := v1
    rw [Rep] at v1'
    obtain ⟨a, rfl, ⟨_, o, xs, ho, rfl⟩ | ⟨rfl, rfl, z⟩⟩ := v1'
    · exact .inl (.inl ⟨_, _, rfl, .inl ⟨xs.map V.int, .inl (.inr ⟨o, ho⟩), (List.length_map ..).symm⟩, F.int E⟩)
    · obtain ⟨xs, h1, h2⟩ := S z
      exact .inl (.inl ⟨_, _, rfl, .inl ⟨xs.map V.int, h2 H, by rw [List.length_map]; exact h1.symm⟩, F.int E⟩)
  | _ => cases hz
theorem pd_lenS (S : ScrC G X.K) (hg : Gl X "len") (hm : X.mg "len" = none) (ha : PD G X W a ta) (he : starEach [a] X.env = (false, eval a X.env) :: starEach [] X.env := by rfl) : PD G X W (.Call (.Name "len" p) [a] [] pos) (dUn gLenS ta) :=
  pd_b1 (cd_lenS S) call_lenAll PySem.boot_len hg hm ha (he := he)
theorem pd_len (hg : Gl X "len") (hm : X.mg "len" = none) (ha : PD G X W a ta) (he : starEach [a] X.env = (false, eval a X.env) :: starEach [] X.env := by rfl) : PD G X W (.Call (.Name "len" p) [a] [] pos) (dUn gLen ta) :=
  pd_b1 cd_len call_lenAll PySem.boot_len hg hm ha (he := he)

/-! abs, max, min, int, bool, str of ints -/
def gAbs : D → Option Rv := fun d => match d with
  | .int i => rI' (if i < 0 then -i else i)
  | _ => none
theorem cd_abs : Cal1 G (fun xs H Q => ∃ i, xs = [.int i] ∧ Q (.int (if i < 0 then -i else i)) H) gAbs := by
  intro σ s ow ow0 H H0 x d1 z Q ft E e0 v1 hz F
  unfold gAbs at hz
  split at hz
  · cases hz; exact ⟨_, by rw [v1.int], F.int E⟩
  · cases hz
def gMax : DOp := gI fun i j => rI' (if j > i then j else i)
def gMin : DOp := gI fun i j => rI' (if j < i then j else i)
theorem cd_max : Cal2 G (fun xs H Q => ∃ i j, xs = [.int i, .int j] ∧ Q (.int (if j > i then j else i)) H) gMax := by
  intro σ s ow ow0 H H0 x y d1 d2 z Q ft E e0 v1 v2 hz F
  obtain ⟨i, j, rfl, rfl, hz⟩ := gI_some hz
  cases hz
  exact ⟨i, j, by rw [v1.int, v2.int], F.int E⟩
theorem cd_min : Cal2 G (fun xs H Q => ∃ i j, xs = [.int i, .int j] ∧ Q (.int (if j < i then j else i)) H) gMin := by
  intro σ s ow ow0 H H0 x y d1 d2 z Q ft E e0 v1 v2 hz F
  obtain ⟨i, j, rfl, rfl, hz⟩ := gI_some hz
  cases hz
  exact ⟨i, j, by rw [v1.int, v2.int], F.int E⟩
def gInt : D → Option Rv := fun d => match d with
  | .int i => rI' i
  | .bl k => rI' (if k then 1 else 0)
  | _ => none
theorem cd_int : Cal1 G (fun xs H Q => (∃ i, xs = [.int i] ∧ Q (.int i) H) ∨ ∃ k, xs = [.bl k] ∧ Q (.int (if k then 1 else 0)) H) gInt := by
  intro σ s ow ow0 H H0 x d1 z Q ft E e0 v1 hz F
  unfold gInt at hz
  split at hz
  · cases hz; exact .inl ⟨_, by rw [v1.int], F.int E⟩
  · cases hz; exact .inr ⟨_, by rw [v1.bl], F.int E⟩
  · cases hz
def gStr : D → Option Rv := fun d => match d with
  | .int i => ifB (decide (i.natAbs.log2 < 1920)) (some (.v (.str (toString i))))
  | _ => none
theorem cd_str : Cal1 G (fun xs H Q => ∃ i, xs = [.int i] ∧ i.natAbs.log2 < 1920 ∧ Q (.str (toString i)) H) gStr := by
  intro σ s ow ow0 H H0 x d1 z Q ft E e0 v1 hz F
  unfold gStr at hz
  split at hz
  · obtain ⟨h, hz⟩ := ifB_some hz
    cases hz; exact ⟨_, by rw [v1.int], of_decide_eq_true h, F.str E⟩
  · cases hz
theorem pd_abs (hg : Gl X "abs") (hm : X.mg "abs" = none) (ha : PD G X W a ta) (he : starEach [a] X.env = (false, eval a X.env) :: starEach [] X.env := by rfl) : PD G X W (.Call (.Name "abs" p) [a] [] pos) (dUn gAbs ta) :=
  pd_b1 cd_abs call_abs (by decide +kernel) hg hm ha (he := he)
theorem pd_int1 (hg : Gl X "int") (hm : X.mg "int" = none) (ha : PD G X W a ta) (he : starEach [a] X.env = (false, eval a X.env) :: starEach [] X.env := by rfl) : PD G X W (.Call (.Name "int" p) [a] [] pos) (dUn gInt ta) :=
  pd_t1 cd_int call_int1 (by decide +kernel) hg hm ha (he := he)
theorem pd_str1 (hg : Gl X "str") (hm : X.mg "str" = none) (ha : PD G X W a ta) (he : starEach [a] X.env = (false, eval a X.env) :: starEach [] X.env := by rfl) : PD G X W (.Call (.Name "str" p) [a] [] pos) (dUn gStr ta) :=
  pd_t1 cd_str call_str_int (by decide +kernel) hg hm ha (he := he)
theorem pd_max2 (hc : X.calm = true) (hg : Gl X "max") (hm : X.mg "max" = none) (ha : PD G X W a ta) (hb : PD G X W b tb) (he : starEach [a, b] X.env = (false, eval a X.env) :: starEach [b] X.env := by rfl) (he2 : starEach [b] X.env = (false, eval b X.env) :: starEach [] X.env := by rfl)
    (hpl : (backTo pos (starEach [b] X.env)).any (·.1) = false := by rfl) : PD G X W (.Call (.Name "max" p) [a, b] [] pos) (dOp gMax ta tb) :=
  pd_b2 cd_max (call_max2 hc) (by decide +kernel) hg hm ha hb (he := he) (he2 := he2) (hpl := hpl)
theorem pd_min2 (hc : X.calm = true) (hg : Gl X "min") (hm : X.mg "min" = none) (ha : PD G X W a ta) (hb : PD G X W b tb) (he : starEach [a, b] X.env = (false, eval a X.env) :: starEach [b] X.env := by rfl) (he2 : starEach [b] X.env = (false, eval b X.env) :: starEach [] X.env := by rfl)
    (hpl : (backTo pos (starEach [b] X.env)).any (·.1) = false := by rfl) : PD G X W (.Call (.Name "min" p) [a, b] [] pos) (dOp gMin ta tb) :=
  pd_b2 cd_min (call_min2 hc) (by decide +kernel) hg hm ha hb (he := he) (he2 := he2) (hpl := hpl)

/-! tuple(..), list(..) -/
def gTuple : D → Option Rv := fun d => match d with
  | .tup l => some (.v (.tup l))
  | .lst l => some (.v (.tup l))
  | .lds l => some (.v (.lds l))
  | _ => none
theorem cd_tuple : Cal1 G (fun xs H Q => ∃ p ys, xs = [.ref p] ∧ ((SqL K H p ys ∧ ∀ l, H l = none → Q (.ref l) (upd H l (.tup ys))) ∨ (SqT K H p ys ∧ Q (.ref p) H))) gTuple := by
  intro σ s ow ow0 H H0 x d1 z Q ft E e0 v1 hz F
  unfold gTuple at hz
  split at hz
  · cases hz
    obtain ⟨a, xs, rfl, t, r⟩ := v1.tup
    exact ⟨a, xs, rfl, .inr ⟨t.sq, F.pure E (by rw [Rep]; exact ⟨a, xs, rfl, t, r⟩)⟩⟩
  · cases hz
    obtain ⟨a, xs, rfl, t, r⟩ := v1
    exact ⟨a, xs, rfl, .inl ⟨sqL_of t, fun l hl => F.tup E hl r⟩⟩
  · cases hz
    obtain ⟨a, xs, rfl, t, r⟩ := v1.lds
    exact ⟨a, xs, rfl, .inr ⟨t.sq, F.pure E (by rw [Rep]; exact ⟨a, xs, rfl, t, r⟩)⟩⟩
  · cases hz
def gList : D → Option Rv := fun d => match d with
  | .tup l => some (.ol l)
  | .lds l => some (.ol l)
  | .lst l => some (.ol l)
  | _ => none
theorem cd_list : Cal1 G (fun xs H Q => ∃ p ys, xs = [.ref p] ∧ (SqL K H p ys ∨ SqT K H p ys) ∧ ∀ l, H l = none → Q (.ref l) (upd H l (.lst ys))) gList := by
  intro σ s ow ow0 H H0 x d1 z Q ft E e0 v1 hz F
  unfold gList at hz
  split at hz
  · cases hz
    obtain ⟨a, xs, rfl, t, r⟩ := v1.tup
    exact ⟨a, xs, rfl, .inr t.sq, fun l hl => F.lst E e0 hl r⟩
  · cases hz
    obtain ⟨a, xs, rfl, t, r⟩ := v1.lds
    exact ⟨a, xs, rfl, .inr t.sq, fun l hl => F.lst E e0 hl r⟩
  · cases hz
    obtain ⟨a, xs, rfl, t, r⟩ := v1
    exact ⟨a, xs, rfl, .inl (sqL_of t), fun l hl => F.lst E e0 hl r⟩
  · cases hz
theorem pd_tuple1 (hg : Gl X "tuple") (hm : X.mg "tuple" = none) (ha : PD G X W a ta) (he : starEach [a] X.env = (false, eval a X.env) :: starEach [] X.env := by rfl) : PD G X W (.Call (.Name "tuple" p) [a] [] pos) (dUn gTuple ta) :=
  pd_t1 cd_tuple call_tuple_of (by decide +kernel) hg hm ha (he := he)
theorem pd_list1 (hg : Gl X "list") (hm : X.mg "list" = none) (ha : PD G X W a ta) (he : starEach [a] X.env = (false, eval a X.env) :: starEach [] X.env := by rfl) : PD G X W (.Call (.Name "list" p) [a] [] pos) (dUn gList ta) :=
  pd_t1 cd_list call_list_of (by decide +kernel) hg hm ha (he := he)

/-! sum, min, max of lists of ints; all, any of lists of bools -/
def intsOf : List D → Option (List Int)
  | [] => some []
  | .int i :: l => (intsOf l).map (i :: ·)
  | _ :: _ => none
def blsOf : List D → Option (List Bool)
  | [] => some []
  | .bl i :: l => (blsOf l).map (i :: ·)
  | _ :: _ => none
theorem intsOf_rep {H : Hp} {ow : OW} : ∀ {l : List D} {ns : List Int} {xs : List V}, intsOf l = some ns → RepL G H ow l xs → xs = ns.map V.int
  | [], ns, xs, h, r => by cases h; rw [RepL] at r; exact r
  | d :: l, ns, xs, h, r => by
    rw [RepL] at r
    obtain ⟨x, q, rfl, q1, q2⟩ := r
    cases d with
    | int i =>
      obtain ⟨m, h1, rfl⟩ := Option.map_eq_some_iff.mp h
      rw [Rep] at q1
      rw [q1, intsOf_rep h1 q2]; rfl
    | _ => cases h
theorem blsOf_rep {H : Hp} {ow : OW} : ∀ {l : List D} {ns : List Bool} {xs : List V}, blsOf l = some ns → RepL G H ow l xs → xs = ns.map V.bl
  | [], ns, xs, h, r => by cases h; rw [RepL] at r; exact r
  | d :: l, ns, xs, h, r => by
    rw [RepL] at r
    obtain ⟨x, q, rfl, q1, q2⟩ := r
    cases d with
    | bl i =>
      obtain ⟨m, h1, rfl⟩ := Option.map_eq_some_iff.mp h
      rw [Rep] at q1
      rw [q1, blsOf_rep h1 q2]; rfl
    | _ => cases h
theorem intsOf_map (ns : List Int) : intsOf (ns.map .int) = some ns := by
  induction ns with
  | nil => rfl
  | cons n ns ih => simp [intsOf, ih]
theorem blsOf_map (ns : List Bool) : blsOf (ns.map .bl) = some ns := by
  induction ns with
  | nil => rfl
  | cons n ns ih => simp [blsOf, ih]
def gSum : D → Option Rv := fun d => match d with
  | .lst l => (intsOf l).map fun ns => .v (.int ns.sum)
  | _ => none
theorem cd_sum : Cal1 G (rSum K) gSum := by
  intro σ s ow ow0 H H0 x d1 z Q ft E e0 v1 hz F
  unfold gSum at hz
  split at hz
  · obtain ⟨ns, h, rfl⟩ := Option.map_eq_some_iff.mp hz
    obtain ⟨a, xs, rfl, t, r⟩ := v1
    have := intsOf_rep h r
    subst this
    exact ⟨a, ns, rfl, sqL_of t, F.int E⟩
  · cases hz
def gAll : D → Option Rv := fun d => match d with
  | .lst l => (blsOf l).map fun ns => .v (.bl (ns.all _root_.id))
  | _ => none
def gAny : D → Option Rv := fun d => match d with
  | .lst l => (blsOf l).map fun ns => .v (.bl (ns.any _root_.id))
  | _ => none
theorem cd_all : Cal1 G (rAll K) gAll := by
  intro σ s ow ow0 H H0 x d1 z Q ft E e0 v1 hz F
  unfold gAll at hz
  split at hz
  · obtain ⟨ns, h, rfl⟩ := Option.map_eq_some_iff.mp hz
    obtain ⟨a, xs, rfl, t, r⟩ := v1
    have := blsOf_rep h r
    subst this
    exact ⟨a, ns, rfl, sqL_of t, F.bl E⟩
  · cases hz
theorem cd_any : Cal1 G (rAny K) gAny := by
  intro σ s ow ow0 H H0 x d1 z Q ft E e0 v1 hz F
  unfold gAny at hz
  split at hz
  · obtain ⟨ns, h, rfl⟩ := Option.map_eq_some_iff.mp hz
    obtain ⟨a, xs, rfl, t, r⟩ := v1
    have := blsOf_rep h r
    subst this
    exact ⟨a, ns, rfl, sqL_of t, F.bl E⟩
  · cases hz
def minI : Int → List Int → Int
  | m, [] => m
  | m, x :: l => minI (if x < m then x else m) l
def maxI : Int → List Int → Int
  | m, [] => m
  | m, x :: l => maxI (if m < x then x else m) l
theorem minI_spec : ∀ (l : List Int) (m : Int), (minI m l = m ∨ minI m l ∈ l) ∧ minI m l ≤ m ∧ ∀ y ∈ l, minI m l ≤ y
  | [], m => ⟨.inl rfl, Int.le_refl _, fun y h => by cases h⟩
  | x :: l, m => by
    obtain ⟨h1, h2, h3⟩ := minI_spec l (if x < m then x else m)
    unfold minI
    refine ⟨?_, ?_, ?_⟩
    · rcases h1 with h1 | h1
      · rw [h1]; by_cases q : x < m
        · rw [if_pos q]; exact .inr List.mem_cons_self
        · rw [if_neg q]; exact .inl rfl
      · exact .inr (List.mem_cons_of_mem _ h1)
    · by_cases q : x < m
      · rw [if_pos q] at h2 ⊢; omega
      · rw [if_neg q] at h2 ⊢; exact h2
    · intro y hy
      rcases List.mem_cons.mp hy with rfl | hy
      · by_cases q : y < m
        · rw [if_pos q] at h2 ⊢; exact h2
        · rw [if_neg q] at h2 ⊢; omega
      · exact h3 y hy
theorem maxI_spec : ∀ (l : List Int) (m : Int), (maxI m l = m ∨ maxI m l ∈ l) ∧ m ≤ maxI m l ∧ ∀ y ∈ l, y ≤ maxI m l
  | [], m => ⟨.inl rfl, Int.le_refl _, fun y h => by cases h⟩
  | x :: l, m => by
    obtain ⟨h1, h2, h3⟩ := maxI_spec l (if m < x then x else m)
    unfold maxI
    refine ⟨?_, ?_, ?_⟩
    · rcases h1 with h1 | h1
      · rw [h1]; by_cases q : m < x
        · rw [if_pos q]; exact .inr List.mem_cons_self
        · rw [if_neg q]; exact .inl rfl
      · exact .inr (List.mem_cons_of_mem _ h1)
    · by_cases q : m < x
      · rw [if_pos q] at h2 ⊢; omega
      · rw [if_neg q] at h2 ⊢; exact h2
    · intro y hy
      rcases List.mem_cons.mp hy with rfl | hy
      · by_cases q : m < y
        · rw [if_pos q] at h2 ⊢; exact h2
        · rw [if_neg q] at h2 ⊢; omega
      · exact h3 y hy
def gMinL : D → Option Rv := fun d => match d with
  | .lst l => match intsOf l with
    | some (m :: ns) => rI' (minI m ns)
    | _ => none
  | _ => none
def gMaxL : D → Option Rv := fun d => match d with
  | .lst l => match intsOf l with
    | some (m :: ns) => rI' (maxI m ns)
    | _ => none
  | _ => none
theorem cd_minL : Cal1 G (rMin K) gMinL := by
  intro σ s ow ow0 H H0 x d1 z Q ft E e0 v1 hz F
  unfold gMinL at hz
  split at hz
  · split at hz
    · rename_i m ns h
      cases hz
      obtain ⟨a, xs, rfl, t, r⟩ := v1
      have := intsOf_rep h r
      subst this
      refine ⟨a, m :: ns, rfl, sqL_of t, Nat.succ_pos _, fun k hk hm => ?_⟩
      obtain ⟨h1, h2, h3⟩ := minI_spec ns m
      have e : k = minI m ns := by
        have l1 : k ≤ minI m ns := hm _ (by rcases h1 with h1 | h1; rw [h1]; exact List.mem_cons_self; exact List.mem_cons_of_mem _ h1)
        have l2 : minI m ns ≤ k := by rcases List.mem_cons.mp hk with rfl | hk; exact h2; exact h3 _ hk
        omega
      rw [e]; exact F.int E
    · cases hz
  · cases hz
theorem cd_maxL : Cal1 G (rMax K) gMaxL := by
  intro σ s ow ow0 H H0 x d1 z Q ft E e0 v1 hz F
  unfold gMaxL at hz
  split at hz
  · split at hz
    · rename_i m ns h
      cases hz
      obtain ⟨a, xs, rfl, t, r⟩ := v1
      have := intsOf_rep h r
      subst this
      refine ⟨a, m :: ns, rfl, sqL_of t, Nat.succ_pos _, fun k hk hm => ?_⟩
      obtain ⟨h1, h2, h3⟩ := maxI_spec ns m
      have e : k = maxI m ns := by
        have l1 : maxI m ns ≤ k := hm _ (by rcases h1 with h1 | h1; rw [h1]; exact List.mem_cons_self; exact List.mem_cons_of_mem _ h1)
        have l2 : k ≤ maxI m ns := by rcases List.mem_cons.mp hk with rfl | hk; exact h2; exact h3 _ hk
        omega
      rw [e]; exact F.int E
    · cases hz
  · cases hz
theorem pd_sum1 (hc : X.calm = true) (hg : Gl X "sum") (hm : X.mg "sum" = none) (ha : PD G X W a ta) (he : starEach [a] X.env = (false, eval a X.env) :: starEach [] X.env := by rfl) : PD G X W (.Call (.Name "sum" p) [a] [] pos) (dUn gSum ta) :=
  pd_b1 cd_sum (cr_sum hc) (by decide +kernel) hg hm ha (he := he)
theorem pd_all1 (hc : X.calm = true) (hg : Gl X "all") (hm : X.mg "all" = none) (ha : PD G X W a ta) (he : starEach [a] X.env = (false, eval a X.env) :: starEach [] X.env := by rfl) : PD G X W (.Call (.Name "all" p) [a] [] pos) (dUn gAll ta) :=
  pd_b1 cd_all (cr_all hc) (by decide +kernel) hg hm ha (he := he)
theorem pd_any1 (hc : X.calm = true) (hg : Gl X "any") (hm : X.mg "any" = none) (ha : PD G X W a ta) (he : starEach [a] X.env = (false, eval a X.env) :: starEach [] X.env := by rfl) : PD G X W (.Call (.Name "any" p) [a] [] pos) (dUn gAny ta) :=
  pd_b1 cd_any (cr_any hc) (by decide +kernel) hg hm ha (he := he)
theorem pd_min1 (hc : X.calm = true) (hg : Gl X "min") (hm : X.mg "min" = none) (ha : PD G X W a ta) (he : starEach [a] X.env = (false, eval a X.env) :: starEach [] X.env := by rfl) : PD G X W (.Call (.Name "min" p) [a] [] pos) (dUn gMinL ta) :=
  pd_b1 cd_minL (cr_min hc) (by decide +kernel) hg hm ha (he := he)
theorem pd_max1 (hc : X.calm = true) (hg : Gl X "max") (hm : X.mg "max" = none) (ha : PD G X W a ta) (he : starEach [a] X.env = (false, eval a X.env) :: starEach [] X.env := by rfl) : PD G X W (.Call (.Name "max" p) [a] [] pos) (dUn gMaxL ta) :=
  pd_b1 cd_maxL (cr_max hc) (by decide +kernel) hg hm ha (he := he)
end
end DL
namespace DL
open PySem PySem.Spec PyProof.Rows L2

/-! ### slices -/
abbrev DO := Sd → (Option Int → Sd → Prop) → DX → Prop
def dNoPart : DO := fun s Q _ => Q none s
def dPart (te : DE) : DO := fun s Q E => te s (fun r s1 => match r with | .v (.int i) => Q (some i) s1 | _ => False) E
def cutD {α : Type} (xs : List α) (lo hi : Option Int) : List α := (xs.drop (HT.sIx xs.length 0 lo)).take (HT.sIx xs.length xs.length hi - HT.sIx xs.length 0 lo)
/-- t[lo:hi], the new tuple's object known -/
def rSlK (K : PySem.W.Frag) : V → Option Int → Option Int → Hp → VK → Prop := fun x lo hi H Q => ∃ a xs, x = .ref a ∧ SqT K H a xs ∧
  (HT.sIx xs.length 0 lo = 0 ∧ HT.sIx xs.length xs.length hi = xs.length → Q (.ref a) H) ∧ (¬ (HT.sIx xs.length 0 lo = 0 ∧ HT.sIx xs.length xs.length hi = xs.length) → ∀ (p : Addr) (o : Obj), H p = none → o.dict = none → Q (.ref p) (upd H p (.frz o (.tup (cutV xs lo hi)))))
theorem sl_tupK {X : Cx} : SlR X (rSlK X.K) := by
  intro pins s σ H x v vl vu lo hi sl Q I rx hs pl pu h
  obtain ⟨a, xs, rfl, hx, q1, q2⟩ := h
  cases rx
  obtain ⟨its, r, ht, hz⟩ := I.tuple hx
  have hlen : its.toArray.size = xs.length := by rw [List.size_toArray]; exact r.length.symm
  refine ⟨"tuple", _, PyProof.Rows.slot_tuple_getitem.lookup, ht.typeIs, ?_⟩
  by_cases hw : HT.sIx xs.length 0 lo = 0 ∧ HT.sIx xs.length xs.length hi = xs.length
  · exact getItem_tuple_whole ht hs pl pu (by rw [hlen]; exact hw) ⟨.ref a, H, I, rfl, q1 hw⟩
  · refine HT.getItem_tuple_cut ht hs pl pu (by rw [hlen]; exact hw) ?_ (by rw [hlen]; exact hz)
    rw [hlen]
    refine ⟨.ref s.heap.objs.size, _, I.laid (t' := s.toks) (o := .frz { cls := .type "tuple", data := .seq ((its.drop (HT.sIx xs.length 0 lo)).take (HT.sIx xs.length xs.length hi - HT.sIx xs.length 0 lo)).toArray } (.tup (cutV xs lo hi))) (fun b ob q => Heap.get?_push_of_some _ q) (Nat.le_refl _) ?_, rfl, q2 hw _ _ (I.hok.fresh (Nat.le_refl _)) rfl⟩
    exact ⟨Heap.get?_push_size _ rfl, Nat.le_trans (cutV_length xs lo hi) hz, _, (r.drop (HT.sIx xs.length 0 lo)).take (HT.sIx xs.length xs.length hi - HT.sIx xs.length 0 lo), IsTup.new _ _⟩
def gSl (d : D) (lo hi : Option Int) : Option Rv := match d with
  | .tup l => some (.v (.tup (cutD l lo hi)))
  | .lst l => some (.ol (cutD l lo hi))
  | .lds l => some (.v (.lds (cutD l lo hi)))
  | .str z => ifB (fitN z.length) (some (.v (.str (cutS z lo hi))))
  | _ => none
def dSl (te : DE) (tl th : DO) : DE := fun s Q E => te s (fun r1 s1 => tl s1 (fun lo s2 => th s2 (fun hi s3 => bindO (view s3 r1) fun d => bindO (gSl d lo hi) fun z => Q z s3) E) E) E
def liftO (G : GT) (W : WX) (t : DO) : TO := fun σ H Q => ∃ ow s Qd Ed, ER G ow H σ s ∧ t s Qd Ed ∧
  (∀ o s', Qd o s' → ∀ H' ow', Ext ow H ow' H' → ER G ow' H' σ s' → Q o H') ∧ exW G W ow H σ Ed
structure PDO (G : GT) (X : Cx) (W : WX) (e : Option Expr) (t : DO) : Prop where
  po : PO X e (liftO G W t)
def rSlAll (K : PySem.W.Frag) : V → Option Int → Option Int → Hp → VK → Prop := fun x lo hi H Q => ((rSlA K x lo hi H Q ∨ rSlL K x lo hi H Q) ∨ rSlS x lo hi H Q) ∨ rSlK K x lo hi H Q
theorem SlR.fit {X : Cx} {r : V → Option Int → Option Int → Hp → VK → Prop} (h : SlR X r) : SlR X (fun x lo hi H Q => Fits H → r x lo hi H Q) :=
  fun pins s σ H x v vl vu lo hi sl Q I rx hs pl pu q => h pins s σ H x v vl vu lo hi sl Q I rx hs pl pu (q (fits_of I))
section
variable {G : GT} {X : Cx} {W : WX} {a b e : Expr} {lo hi : Option Expr} {x : Str} {p p2 pos : Pos} {ta tb te : DE} {tl th : DO} {K : PySem.W.Frag}
theorem pdo_none : PDO G X W none dNoPart := ⟨⟨fun pins s σ H Q I h => by
  obtain ⟨ow, s0, Qd, Ed, E, t, hQ, hE⟩ := h
  exact po_none.run pins s σ H Q I (hQ _ _ t H ow (Ext.refl _ _) E)⟩⟩
theorem pdo_some (h : PD G X W e te) : PDO G X W (some e) (dPart te) := ⟨⟨fun pins s σ H Q I hq => by
  obtain ⟨ow, s0, Qd, Ed, E, t, hQ, hE⟩ := hq
  refine (po_some h.pe).run pins s σ H Q I ⟨ow, s0, _, Ed, E, t, fun r s1 q1 v H1 ow1 e1 E1 R1 => ?_, hE⟩
  split at q1
  · exact ⟨_, by have := R1; rw [RepR, Rep] at this; exact this, hQ _ _ q1 _ _ e1 E1⟩
  · exact q1.elim⟩⟩
theorem sl_all : SlR X (rSlAll X.K) := SlR.or (SlR.or (SlR.or sl_tupA sl_list) sl_str) sl_tupK
theorem cut_rep {H : Hp} {ow : OW} {l : List D} {xs : List V} (r : RepL G H ow l xs) (lo hi : Option Int) : RepL G H ow (cutD l lo hi) (cutV xs lo hi) := by
  unfold cutD cutV
  rw [r.length]
  exact (r.drop _).take _
theorem pd_slice (h : PD G X W e te) (hl : PDO G X W lo tl) (hh : PDO G X W hi th) : PD G X W (.Subscript e (.Slice lo hi none p2) pos) (dSl te tl th) :=
  ⟨PE.wk (pe_slice (SlR.fit sl_all) h.pe hl.po hh.po) fun σ H Q _ hq => by
    obtain ⟨ow, s, Qd, Ed, E, t, hQ, hE⟩ := hq
    refine ⟨ow, s, _, Ed, E, t, fun r1 s1 q1 v H1 ow1 e1 E1 R1 => ⟨ow1, s1, _, Ed, E1, q1, fun lo s2 q2 H2 ow2 e2 E2 => ⟨ow2, s2, _, Ed, E2, q2, fun hi s3 q3 H3 ow3 e3 E3 => ?_, hE.from (e1.trans e2)⟩, hE.from e1⟩, hE⟩
    obtain ⟨d, hd, q3⟩ := bindO_some q3
    obtain ⟨z, hz, q3⟩ := bindO_some q3
    have R3 := (R1.ext e2).ext e3
    have e13 := (e1.trans e2).trans e3
    have v1 := view_ok E3 R3 hd
    have F : Fin G σ s3 ow3 H3 H z Q := fun v ow' H' e' E' R' => hQ _ _ q3 _ _ _ (e13.trans e') E' R'
    intro ft
    unfold gSl at hz
    split at hz
    · rename_i l
      cases hz
      obtain ⟨a, xs, rfl, t, r⟩ := v1.tup
      refine .inl (.inl (.inl ⟨a, xs, rfl, t.sq, fun hw => ?_, fun _ p hp => F.tup E3 hp (cut_rep r lo hi)⟩))
      have e : cutD l lo hi = l := by
        unfold cutD
        rw [← r.length, hw.1, hw.2]
        simp [r.length]
      rw [e] at F
      exact F.pure E3 (by rw [Rep]; exact ⟨a, xs, rfl, t, r⟩)
    · cases hz
      obtain ⟨a, xs, rfl, t, r⟩ := v1
      exact .inl (.inl (.inr ⟨a, xs, rfl, sqL_of t, fun p hp => F.lst E3 e13 hp (cut_rep r lo hi)⟩))
    · rename_i l
      cases hz
      obtain ⟨a, xs, rfl, t, r⟩ := v1.lds
      refine .inr ⟨a, xs, rfl, t.sq, fun hw => ?_, fun _ p o hp od => F.lds E3 hp od (cut_rep r lo hi)⟩
      have e : cutD l lo hi = l := by
        unfold cutD
        rw [← r.length, hw.1, hw.2]
        simp [r.length]
      rw [e] at F
      exact F.pure E3 (by rw [Rep]; exact ⟨a, xs, rfl, t, r⟩)
    · obtain ⟨hf, hz⟩ := ifB_some hz
      cases hz
      exact .inl (.inr ⟨_, v1.str, fitN_le hf, F.str E3⟩)
    · cases hz⟩

/-! ### isinstance(x, int) .. -/
def tyD : D → Option String
  | .non => some "NoneType"
  | .bl _ => some "bool"
  | .int _ => some "int"
  | .str _ => some "str"
  | .tup _ => some "tuple"
  | .lst _ => some "list"
  | .lds _ => some "tuple"
  | .dic _ _ _ => some "dict"
  | _ => none
theorem tyD_ok {H : Hp} {ow : OW} {d : D} {v : V} {T : String} (h : RepV G H ow d v) (e : tyD d = some T) : TyX K H v (.type T) := by
  cases d with
  | non => cases e; rw [h.non]; exact .base .non
  | bl b => cases e; rw [h.bl]; exact .base (.bl b)
  | int b => cases e; rw [h.int]; exact .base (.int b)
  | str b => cases e; rw [h.str]; exact .base (.str b)
  | tup l => cases e; obtain ⟨a, xs, rfl, t, _⟩ := h.tup; exact .base (.tup t.2)
  | lst l => cases e; obtain ⟨a, xs, rfl, t, _⟩ := h; exact .base (.lst t)
  | dic tb ks vs =>
    cases e
    obtain ⟨a, xs, rfl, t, _⟩ := h
    cases tb with
    | false => obtain ⟨l, hl, _⟩ := t; exact .base (.dK hl)
    | true => obtain ⟨l, hl, _⟩ := t; exact .base (.dT hl)
  | scr n => cases e
  | fn n => cases e
  | clo _ _ _ _ _ => cases e
  | lds l => cases e; obtain ⟨a, xs, rfl, ⟨_, o, _, t⟩, _⟩ := h.lds; exact .fTuple t
  | exc _ _ => cases e
  | obj _ => cases e
  | dr => cases e
def dIsT (g : D → Option Bool) (ta : DE) : DE := fun s Q E => ta s (fun r s1 => bindO (view s1 r) fun d => bindO (g d) fun b => Q (.v (.bl b)) s1) E
/-- what an answer by data has to be -/
def IsT (K : PySem.W.Frag) (u : Value) (g : D → Option Bool) : Prop := ∀ d b, g d = some b → ∃ T, tyD d = some T ∧ PySem.W.kitOne K (.type T) u = some b
def rIsX (K : PySem.W.Frag) (c : V) : List V → Hp → VK → Prop := fun xs H Q => Fits H → ∃ (x : V) (t u : Value) (b : Bool), xs = [x, c] ∧ ClsV c u ∧ TyX K H x t ∧ PySem.W.kitOne K t u = some b ∧ Q (.bl b) H
theorem pd_isT {g : D → Option Bool} {c : V} {u : Value} (hc : PE X b (tC c)) (hu : ClsV c u) (hT : IsT X.K u g) (hg : Gl X "isinstance") (hm : X.mg "isinstance" = none) (ha : PD G X W a ta)
    (he : starEach [a, b] X.env = (false, eval a X.env) :: starEach [b] X.env := by rfl) (he2 : starEach [b] X.env = (false, eval b X.env) :: starEach [] X.env := by rfl)
    (hpl : (backTo pos (starEach [b] X.env)).any (·.1) = false := by rfl) : PD G X W (.Call (.Name "isinstance" p) [a, b] [] pos) (dIsT g ta) :=
  ⟨PE.wk (pe_callB call_isi hg hm (by decide +kernel) (pa_cons ha.pe (pa_cons hc pa_nil he2) he) (by decide) (by decide) he hpl) fun σ H Q _ h => by
    obtain ⟨ow, s, Qd, Ed, E, t, hQ, hE⟩ := h
    refine ⟨ow, s, _, Ed, E, t, fun r s1 q1 v H1 ow1 e1 E1 R1 => ?_, hE⟩
    obtain ⟨d, hd, q1⟩ := bindO_some q1
    obtain ⟨b, hb, q1⟩ := bindO_some q1
    obtain ⟨T, h1, h2⟩ := hT d b hb
    exact ⟨v, c, _, u, b, rfl, hu, tyD_ok (view_ok E1 R1 hd) h1, h2, hQ _ _ q1 _ _ _ e1 E1 (by rw [RepR, Rep])⟩⟩
def gIsInt : D → Option Bool
  | .int _ => some true
  | .bl _ => some true
  | .obj _ | .exc _ _ | .dr | .scr _ | .fn _ | .clo _ _ _ _ _ => none
  | _ => some false
def gIsBool : D → Option Bool
  | .bl _ => some true
  | .obj _ | .exc _ _ | .dr | .scr _ | .fn _ | .clo _ _ _ _ _ => none
  | _ => some false
def gIsTup : D → Option Bool
  | .tup _ => some true
  | .lds _ => some true
  | .obj _ | .exc _ _ | .dr | .scr _ | .fn _ | .clo _ _ _ _ _ => none
  | _ => some false
def gIsStr : D → Option Bool
  | .str _ => some true
  | .obj _ | .exc _ _ | .dr | .scr _ | .fn _ | .clo _ _ _ _ _ => none
  | _ => some false
def gIsLst : D → Option Bool
  | .lst _ => some true
  | .obj _ | .exc _ _ | .dr | .scr _ | .fn _ | .clo _ _ _ _ _ => none
  | _ => some false
theorem kitB_all : kitB "NoneType" "int" = some false ∧ kitB "bool" "int" = some true ∧ kitB "int" "int" = some true ∧ kitB "str" "int" = some false ∧ kitB "tuple" "int" = some false ∧ kitB "list" "int" = some false ∧ kitB "dict" "int" = some false := by decide +kernel
theorem kitB_bool : kitB "NoneType" "bool" = some false ∧ kitB "bool" "bool" = some true ∧ kitB "int" "bool" = some false ∧ kitB "str" "bool" = some false ∧ kitB "tuple" "bool" = some false ∧ kitB "list" "bool" = some false ∧ kitB "dict" "bool" = some false := by decide +kernel
theorem kitB_tup : kitB "NoneType" "tuple" = some false ∧ kitB "bool" "tuple" = some false ∧ kitB "int" "tuple" = some false ∧ kitB "str" "tuple" = some false ∧ kitB "tuple" "tuple" = some true ∧ kitB "list" "tuple" = some false ∧ kitB "dict" "tuple" = some false := by decide +kernel
theorem kitB_str : kitB "NoneType" "str" = some false ∧ kitB "bool" "str" = some false ∧ kitB "int" "str" = some false ∧ kitB "str" "str" = some true ∧ kitB "tuple" "str" = some false ∧ kitB "list" "str" = some false ∧ kitB "dict" "str" = some false := by decide +kernel
theorem kitB_lst : kitB "NoneType" "list" = some false ∧ kitB "bool" "list" = some false ∧ kitB "int" "list" = some false ∧ kitB "str" "list" = some false ∧ kitB "tuple" "list" = some false ∧ kitB "list" "list" = some true ∧ kitB "dict" "list" = some false := by decide +kernel
theorem is_int : IsT K (.type "int") gIsInt := by
  obtain ⟨k1, k2, k3, k4, k5, k6, k7⟩ := kitB_all
  intro d b h
  cases d <;> first | (cases h; done) | (cases h; exact ⟨_, rfl, kit_ty (by assumption)⟩)
theorem is_bool : IsT K (.type "bool") gIsBool := by
  obtain ⟨k1, k2, k3, k4, k5, k6, k7⟩ := kitB_bool
  intro d b h
  cases d <;> first | (cases h; done) | (cases h; exact ⟨_, rfl, kit_ty (by assumption)⟩)
theorem is_tup : IsT K (.type "tuple") gIsTup := by
  obtain ⟨k1, k2, k3, k4, k5, k6, k7⟩ := kitB_tup
  intro d b h
  cases d <;> first | (cases h; done) | (cases h; exact ⟨_, rfl, kit_ty (by assumption)⟩)
theorem is_str : IsT K (.type "str") gIsStr := by
  obtain ⟨k1, k2, k3, k4, k5, k6, k7⟩ := kitB_str
  intro d b h
  cases d <;> first | (cases h; done) | (cases h; exact ⟨_, rfl, kit_ty (by assumption)⟩)
theorem is_lst : IsT K (.type "list") gIsLst := by
  obtain ⟨k1, k2, k3, k4, k5, k6, k7⟩ := kitB_lst
  intro d b h
  cases d <;> first | (cases h; done) | (cases h; exact ⟨_, rfl, kit_ty (by assumption)⟩)
theorem pd_isInt (hg : Gl X "isinstance") (hm : X.mg "isinstance" = none) (hg2 : Gl X "int") (hm2 : X.mg "int" = none) (ha : PD G X W a ta)
    (he : starEach [a, .Name "int" p2] X.env = (false, eval a X.env) :: starEach [.Name "int" p2] X.env := by rfl) (he2 : starEach [.Name "int" p2] X.env = (false, eval (.Name "int" p2) X.env) :: starEach [] X.env := by rfl)
    (hpl : (backTo pos (starEach [.Name "int" p2] X.env)).any (·.1) = false := by rfl) : PD G X W (.Call (.Name "isinstance" p) [a, .Name "int" p2] [] pos) (dIsT gIsInt ta) :=
  pd_isT (pe_bltn (v := .ty "int") hg2 hm2 (by decide +kernel) rfl) (.ty "int") is_int hg hm ha (he := he) (he2 := he2) (hpl := hpl)
theorem pd_isBool (hg : Gl X "isinstance") (hm : X.mg "isinstance" = none) (hg2 : Gl X "bool") (hm2 : X.mg "bool" = none) (ha : PD G X W a ta)
    (he : starEach [a, .Name "bool" p2] X.env = (false, eval a X.env) :: starEach [.Name "bool" p2] X.env := by rfl) (he2 : starEach [.Name "bool" p2] X.env = (false, eval (.Name "bool" p2) X.env) :: starEach [] X.env := by rfl)
    (hpl : (backTo pos (starEach [.Name "bool" p2] X.env)).any (·.1) = false := by rfl) : PD G X W (.Call (.Name "isinstance" p) [a, .Name "bool" p2] [] pos) (dIsT gIsBool ta) :=
  pd_isT (pe_bltn (v := .ty "bool") hg2 hm2 (by decide +kernel) rfl) (.ty "bool") is_bool hg hm ha (he := he) (he2 := he2) (hpl := hpl)
theorem pd_isTup (hg : Gl X "isinstance") (hm : X.mg "isinstance" = none) (hg2 : Gl X "tuple") (hm2 : X.mg "tuple" = none) (ha : PD G X W a ta)
    (he : starEach [a, .Name "tuple" p2] X.env = (false, eval a X.env) :: starEach [.Name "tuple" p2] X.env := by rfl) (he2 : starEach [.Name "tuple" p2] X.env = (false, eval (.Name "tuple" p2) X.env) :: starEach [] X.env := by rfl)
    (hpl : (backTo pos (starEach [.Name "tuple" p2] X.env)).any (·.1) = false := by rfl) : PD G X W (.Call (.Name "isinstance" p) [a, .Name "tuple" p2] [] pos) (dIsT gIsTup ta) :=
  pd_isT (pe_bltn (v := .ty "tuple") hg2 hm2 (by decide +kernel) rfl) (.ty "tuple") is_tup hg hm ha (he := he) (he2 := he2) (hpl := hpl)
theorem pd_isStr (hg : Gl X "isinstance") (hm : X.mg "isinstance" = none) (hg2 : Gl X "str") (hm2 : X.mg "str" = none) (ha : PD G X W a ta)
    (he : starEach [a, .Name "str" p2] X.env = (false, eval a X.env) :: starEach [.Name "str" p2] X.env := by rfl) (he2 : starEach [.Name "str" p2] X.env = (false, eval (.Name "str" p2) X.env) :: starEach [] X.env := by rfl)
    (hpl : (backTo pos (starEach [.Name "str" p2] X.env)).any (·.1) = false := by rfl) : PD G X W (.Call (.Name "isinstance" p) [a, .Name "str" p2] [] pos) (dIsT gIsStr ta) :=
  pd_isT (pe_bltn (v := .ty "str") hg2 hm2 (by decide +kernel) rfl) (.ty "str") is_str hg hm ha (he := he) (he2 := he2) (hpl := hpl)
end
end DL
namespace DL
open PySem PySem.Spec PyProof.Rows L2

/-! ### statements -/
structure Dn where
  nx : Sd → Prop
  rt : Rv → Sd → Prop
  bk : Sd → Prop := fun _ => False
  ct : Sd → Prop := fun _ => False
  ex : DX
abbrev DS := Dn → Sd → Prop
/-- what is wanted of the heap follows from what is wanted of the data -/
structure Lk (G : GT) (W : WX) (ow : OW) (H : Hp) (D : Ends) (Dd : Dn) : Prop where
  nx : ∀ s', Dd.nx s' → ∀ σ' H' ow', Ext ow H ow' H' → ER G ow' H' σ' s' → D.nx σ' H'
  rt : ∀ r s', Dd.rt r s' → ∀ v σ' H' ow', Ext ow H ow' H' → ER G ow' H' σ' s' → RepR G ow' H' H σ' r v → D.rt v H'
  bk : ∀ s', Dd.bk s' → ∀ σ' H' ow', Ext ow H ow' H' → ER G ow' H' σ' s' → D.bk σ' H'
  ct : ∀ s', Dd.ct s' → ∀ σ' H' ow', Ext ow H ow' H' → ER G ow' H' σ' s' → D.ct σ' H'
  ex : ∀ x s', Dd.ex x s' → ∀ c d σ' H' ow', Ext ow H ow' H' → ER G ow' H' σ' s' → RepX G ow' H' x c d → W c d σ' H'
def liftS (G : GT) (W : WX) (t : DS) : TS := fun D σ H => ∃ ow s Dd, ER G ow H σ s ∧ t Dd s ∧ Lk G W ow H D Dd
structure PDS (G : GT) (X : Cx) (W : WX) (st : Stmt) (t : DS) : Prop where
  ps : PS X st (liftS G W t)
structure PDSs (G : GT) (X : Cx) (W : WX) (st : List Stmt) (t : DS) : Prop where
  ps : PSs X st (liftS G W t)
section
variable {X : Cx} {st : Stmt} {sts : List Stmt}
theorem PS.wk {t t' : TS} (h : PS X st t) (w : ∀ D σ H, Fits H → t' D σ H → t D σ H) : PS X st t' := ⟨fun pins s σ H D I q => h.run pins s σ H D I (w D σ H (fits_of I) q)⟩
theorem PSs.wk {t t' : TS} (h : PSs X sts t) (w : ∀ D σ H, Fits H → t' D σ H → t D σ H) : PSs X sts t' := ⟨fun pins s σ H D I q => h.run pins s σ H D I (w D σ H (fits_of I) q)⟩
end
section
variable {G : GT} {W : WX} {ow ow' ow0 : OW} {H H' H0 : Hp} {σ : L2.St} {s s' : Sd} {D : Ends} {Dd : Dn}
theorem Lk.exW (L : Lk G W ow H D Dd) (σ : L2.St) : exW G W ow H σ Dd.ex := fun x s' q c d H' ow' e E r => L.ex x s' q c d σ H' ow' e E r
theorem Lk.from (e : Ext ow H ow' H') (L : Lk G W ow H D Dd) : Lk G W ow' H' D Dd where
  nx := fun s' q σ' H2 ow2 e2 E => L.nx s' q σ' H2 ow2 (e.trans e2) E
  rt := fun r s' q v σ' H2 ow2 e2 E R => L.rt r s' q v σ' H2 ow2 (e.trans e2) E (R.from e)
  bk := fun s' q σ' H2 ow2 e2 E => L.bk s' q σ' H2 ow2 (e.trans e2) E
  ct := fun s' q σ' H2 ow2 e2 E => L.ct s' q σ' H2 ow2 (e.trans e2) E
  ex := fun x s' q c d σ' H2 ow2 e2 E R => L.ex x s' q c d σ' H2 ow2 (e.trans e2) E R

/-! ### a value is stored at a name -/
def dStore (i : Nat) (r : Rv) (s : Sd) : Option Sd := match r with
  | .v d => some (s.put i (.v d))
  | .ol l => some (s.put i (.ol l))
  | .od tb ks vs => some (s.put i (.od tb ks vs))
  | .al j => match settle (.al j) s with
    | some (d, s1) => some (s1.put i (.v d))
    | none => none
theorem Loosen.slotOf {a : Addr} {i : Nat} (h : Ow.loose (ow a) = false ∧ ow a ≠ none) : Loosen ow (ow1 ow a (some (.slot i))) where
  non := fun b e => by
    by_cases q : b = a
    · subst q; exact absurd e h.2
    · rw [ow1_ne q]; exact e
  same := fun b e => by
    by_cases q : b = a
    · subst q; rw [h.1] at e; cases e
    · exact ow1_ne q
  back := fun b e n => by
    by_cases q : b = a
    · subst q; rw [ow1_same] at n; cases n
    · exact (ow1_ne q).symm
theorem ER.set (E : ER G ow H σ s) {i : Nat} {v : V} {sv : Sv} (h : RepS G ow H i sv v) : ER G ow H (σ.set i (some v)) (s.put i sv) where
  len := by rw [List.length_set, E.len]; exact (setN_len _ _ _).symm
  sl := fun j sv' e => by
    have hl : σ.length = s.e.length := E.len
    rcases setN_get e with ⟨rfl, rfl⟩ | ⟨hj, e⟩
    · have hi : j < σ.length := by
        have z := (List.getElem?_eq_some_iff.mp e).1
        have z2 : (s.put j sv').e.length = s.e.length := setN_len _ _ _
        omega
      exact ⟨v, by rw [List.getElem?_set_self hi], h⟩
    · obtain ⟨v', h1, h2⟩ := E.sl j sv' e
      exact ⟨v', by rw [List.getElem?_set_ne (fun z => hj z.symm)]; exact h1, h2⟩
  gr := E.gr
theorem store_ok1 (E : ER G ow H σ s) (e0 : Ext ow0 H0 ow H) {r : Rv} {v : V} (h : RepR G ow H H0 σ r v) {i : Nat} (q : dStore i r s = some s') : ∃ ow', Ext ow0 H0 ow' H ∧ ER G ow' H (σ.set i (some v)) s' := by
  cases r with
  | v d => cases q; exact ⟨ow, e0, E.set (sv := .v d) h⟩
  | ol l =>
    cases q
    obtain ⟨a, xs, rfl, n, o, t, q⟩ := h
    have L : Loosen ow (ow1 ow a (some (.slot i))) := Loosen.slotOf ⟨by rw [o]; rfl, by rw [o]; intro z; cases z⟩
    exact ⟨_, e0.told1 n, (E.loosen L).set (sv := .ol l) ⟨a, xs, rfl, ow1_same, t, RepL.loosen L l xs q⟩⟩
  | od tb ks vs =>
    cases q
    obtain ⟨a, xs, rfl, n, o, t, q⟩ := h
    have L : Loosen ow (ow1 ow a (some (.slot i))) := Loosen.slotOf ⟨by rw [o]; rfl, by rw [o]; intro z; cases z⟩
    exact ⟨_, e0.told1 n, (E.loosen L).set (sv := .od tb ks vs) ⟨a, xs, rfl, ow1_same, t, RepL.loosen L vs xs q⟩⟩
  | al j =>
    cases hs : settle (.al j) s with
    | none => simp only [dStore, hs] at q; cases q
    | some p =>
      obtain ⟨d, s1⟩ := p
      simp only [dStore, hs] at q
      cases q
      obtain ⟨ow1, e1, E1, R1, _⟩ := settle_ok E e0 h hs
      exact ⟨ow1, e1, E1.set (sv := .v d) R1⟩
end

/-! ### the statements' readings -/
def dNext : DS := fun D s => D.nx s
def dSeq (t u : DS) : DS := fun D s => t { D with nx := u D } s
def dDrop (te : DE) : DS := fun D s => te s (fun _ s1 => D.nx s1) D.ex
def dRet (te : DE) : DS := fun D s => te s D.rt D.ex
def dRetN : DS := fun D s => D.rt (.v .non) s
def dIfS (c : DT) (t u : DS) : DS := fun D s => c s (fun b s1 => match b with | true => t D s1 | false => u D s1) D.ex
def dSet (i : Nat) (te : DE) : DS := fun D s => te s (fun r s1 => bindO (dStore i r s1) D.nx) D.ex
def dCont : DS := fun D s => D.ct s
def dBreak : DS := fun D s => D.bk s
def whileN : Nat → DT → DS → DS
  | 0, _, _ => fun _ _ => False
  | n + 1, c, t => fun D s => c s (fun b s1 => match b with | true => t { D with nx := whileN n c t D, ct := whileN n c t D, bk := D.nx } s1 | false => D.nx s1) D.ex
def dWhile (c : DT) (t : DS) : DS := fun D s => ∃ n, whileN n c t D s
section
variable {G : GT} {X : Cx} {W : WX} {st : Stmt} {rest a b : List Stmt} {t u : DS} {e c : Expr} {te : DE} {tc : DT} {pos : Pos}
theorem pds_nil : PDSs G X W [] dNext := ⟨PSs.wk pss_nil fun D σ H _ h => by
  obtain ⟨ow, s, Dd, E, t, L⟩ := h
  exact L.nx _ t σ H ow (Ext.refl _ _) E⟩
theorem pds_cons (h1 : PDS G X W st t) (h2 : PDSs G X W rest u) : PDSs G X W (st :: rest) (dSeq t u) := ⟨PSs.wk (pss_cons h1.ps h2.ps) fun D σ H _ h => by
  obtain ⟨ow, s, Dd, E, q, L⟩ := h
  refine ⟨ow, s, { Dd with nx := u Dd }, E, q, ⟨fun s1 q1 σ1 H1 ow1 e1 E1 => ?_, L.rt, L.bk, L.ct, L.ex⟩⟩
  exact ⟨ow1, s1, Dd, E1, q1, L.from e1⟩⟩
theorem pds_one (h1 : PDS G X W st t) : PDSs G X W [st] t := ⟨pss_one h1.ps⟩
theorem pds_pass : PDS G X W (.Pass pos) dNext := ⟨PS.wk ps_pass fun D σ H _ h => by
  obtain ⟨ow, s, Dd, E, t, L⟩ := h
  exact L.nx _ t σ H ow (Ext.refl _ _) E⟩
theorem pds_continue : PDS G X W (.Continue pos) dCont := ⟨PS.wk ps_continue fun D σ H _ h => by
  obtain ⟨ow, s, Dd, E, t, L⟩ := h
  exact L.ct _ t σ H ow (Ext.refl _ _) E⟩
theorem pds_expr (he : PD G X W e te) (hs : swapsWith e none pos.line X.env = pure false := by rfl) : PDS G X W (.Expr e pos) (dDrop te) := ⟨PS.wk (ps_expr he.pe hs) fun D σ H _ h => by
  obtain ⟨ow, s, Dd, E, t, L⟩ := h
  exact ⟨ow, s, _, _, E, t, fun r s1 q1 v H1 ow1 e1 E1 R1 => L.nx _ q1 _ _ _ e1 E1, L.exW σ⟩⟩
theorem pds_ret (he : PD G X W e te) : PDS G X W (.Return (some e) pos) (dRet te) := ⟨PS.wk (ps_ret he.pe) fun D σ H _ h => by
  obtain ⟨ow, s, Dd, E, t, L⟩ := h
  exact ⟨ow, s, _, _, E, t, fun r s1 q1 v H1 ow1 e1 E1 R1 => L.rt _ _ q1 _ _ _ _ e1 E1 R1, L.exW σ⟩⟩
theorem pds_retN : PDS G X W (.Return none pos) dRetN := ⟨PS.wk ps_retN fun D σ H _ h => by
  obtain ⟨ow, s, Dd, E, t, L⟩ := h
  exact L.rt _ _ t _ σ H ow (Ext.refl _ _) E (by rw [RepR, Rep])⟩
theorem pds_if (hc : PDT G X W c tc) (ha : PDSs G X W a t) (hb : PDSs G X W b u) : PDS G X W (.If c a b pos) (dIfS tc t u) := ⟨PS.wk (ps_if hc.pt ha.ps hb.ps) fun D σ H _ h => by
  obtain ⟨ow, s, Dd, E, q, L⟩ := h
  refine ⟨ow, s, _, _, E, q, fun b s1 q1 H1 ow1 e1 E1 => ?_, L.exW σ⟩
  cases b with
  | true => rw [if_pos rfl]; exact ⟨ow1, s1, Dd, E1, q1, L.from e1⟩
  | false => rw [if_neg Bool.false_ne_true]; exact ⟨ow1, s1, Dd, E1, q1, L.from e1⟩⟩
theorem pds_set (i : Nat) {x : Str} {pos' : Pos} (hN : X.N.Nodup) (he : PD G X W e te) (hi : X.N[i]? = some x := by rfl) (hx : Loc X.env.scope x := by first | exact Or.inl rfl | exact Or.inr rfl) (hs : swapsWith e (some (.Name x pos')) pos.line X.env = pure false := by rfl)
    (hf : X.fn x = true ∨ X.env.scope.names.lookup x = some .local := by first | exact .inl rfl | exact .inr rfl | assumption) : PDS G X W (.Assign [.Name x pos'] e pos) (dSet i te) := ⟨PS.wk (ps_set hN hi hx he.pe hs hf) fun D σ H _ h => by
  obtain ⟨ow, s, Dd, E, t, L⟩ := h
  refine ⟨ow, s, _, _, E, t, fun r s1 q1 v H1 ow1 e1 E1 R1 => ?_, L.exW σ⟩
  obtain ⟨s2, hs2, q2⟩ := bindO_some q1
  obtain ⟨ow2, e2, E2⟩ := store_ok1 E1 e1 R1 hs2
  exact L.nx _ q2 _ _ _ e2 E2⟩
theorem pds_while (hp : PassesOwn (model X.prog X.w) X.A X.env X.xe) (hc : PDT G X W c tc) (hb : PDSs G X W a t) : PDS G X W (.While c a [] pos) (dWhile tc t) := ⟨PS.wk (ps_while hp hc.pt hb.ps) fun D σ H _ h => by
  obtain ⟨ow, s, Dd, E, ⟨n, q⟩, L⟩ := h
  refine ⟨fun m σ1 H1 => ∃ ow1 s1, Ext ow H ow1 H1 ∧ ER G ow1 H1 σ1 s1 ∧ whileN m tc t Dd s1, ⟨n, ow, s, Ext.refl _ _, E, q⟩, ?_⟩
  rintro m σ1 H1 ⟨ow1, s1, e1, E1, q1⟩
  cases m with
  | zero => exact q1.elim
  | succ m =>
    refine ⟨ow1, s1, _, _, E1, q1, fun b s2 q2 H2 ow2 e2 E2 => ?_, (L.from e1).exW σ1⟩
    cases b with
    | true =>
      rw [if_pos rfl]
      refine ⟨fun σ3 H3 => ∃ ow3 s3, Ext ow H ow3 H3 ∧ ER G ow3 H3 σ3 s3 ∧ whileN m tc t Dd s3, fun σ3 H3 ⟨ow3, s3, e3, E3, q3⟩ => ⟨m, Nat.lt_succ_self m, ow3, s3, e3, E3, q3⟩, ?_⟩
      have L2 := L.from (e1.trans e2)
      exact ⟨ow2, s2, _, E2, q2, ⟨fun s3 q3 σ3 H3 ow3 e3 E3 => ⟨ow3, s3, (e1.trans e2).trans e3, E3, q3⟩, L2.rt, L2.nx, fun s3 q3 σ3 H3 ow3 e3 E3 => ⟨ow3, s3, (e1.trans e2).trans e3, E3, q3⟩, L2.ex⟩⟩
    | false => rw [if_neg Bool.false_ne_true]; exact L.nx _ q2 _ _ _ (e1.trans e2) E2⟩
end
end DL
namespace DL
open PySem PySem.Spec PyProof.Rows L2

/-! ### enumerate(v), v a list or a tuple -/
theorem enum_new1 {v : Value} {o : Obj} {H : Heap → Prop} (B : Begins v o H) :
    Meets (Builtin.«enumerate.__new__» ⟨[.type "enumerate", v], []⟩) (fun _ R s => H s.heap ∧
      R (.ok (.ret (.ref (s.heap.push o).objs.size))) { s with heap := (s.heap.push o).push { cls := .type "enumerate", data := .fields #[.none, .bool false, .ref s.heap.objs.size, rawInt 0, .none, .none] } }) :=
  .of_wp fun prog w A R s h => by
    obtain ⟨hp, g, d, tk, os⟩ := s
    obtain ⟨h1, h⟩ := h
    have hsub := sub_enumerate
    have q1 : ∀ {A' : Around} {E : Value → Shared → Prop} {Q : Value → Shared → Prop}, Q (.ref hp.objs.size) ⟨hp.push o, g, d, tk, os⟩ → wpAny (model prog w) A' (pyIter v) Q E ⟨hp, g, d, tk, os⟩ :=
      fun q => B.iter prog w _ _ ⟨hp, g, d, tk, os⟩ _ h1 q
    wp_walk using q1
    refine wpAny_stack_any fun st => wpAny_pure ?_
    split
    · rename_i c _ _ _ _ _
      cases (c == Value.type "enumerate")
      · wp_walk using q1
        exact ⟨_, rfl, h⟩
      · wp_walk using q1
        exact ⟨_, rfl, h⟩
    · wp_walk using q1
      exact ⟨_, rfl, h⟩
section
variable {prog : Program} {w : World} {A : Around} {E : Value → Shared → Prop} {s : Shared}
theorem enum_begin1 {v : Value} {o : Obj} {H : Heap → Prop} {Q : Value → Shared → Prop} (B : Begins v o H) (h1 : H s.heap)
    (h : ∀ h', IsEnum h' (s.heap.objs.size + 1) s.heap.objs.size 0 .none → h'.get? s.heap.objs.size = some o → (∀ b u, s.heap.get? b = some u → h'.get? b = some u) → Q (.ref (s.heap.objs.size + 1)) { s with heap := h' }) :
    wpAny (model prog w) A (call (.type "enumerate") [v]) Q E s := by
  refine callType_new F.called_enumerate (by decide) (F.typeCall_enumerate_1 _) (F.newCall_enumerate_1 _) (fun obj => F.args_object_init_2 obj _) F.entry_enumerate_new (enum_new1 B) ⟨h1, ?_⟩
  have hz : (s.heap.push o).objs.size = s.heap.objs.size + 1 := Heap.size_push ..
  show _ ∧ _
  rw [hz]
  have he : IsEnum ((s.heap.push o).push { cls := .type "enumerate", data := .fields #[.none, .bool false, .ref s.heap.objs.size, rawInt 0, .none, .none] }) (s.heap.objs.size + 1) s.heap.objs.size 0 .none := by
    have z := Heap.get?_push_size (s.heap.push o) (o := { cls := .type "enumerate", data := .fields #[.none, .bool false, .ref s.heap.objs.size, rawInt 0, .none, .none] }) rfl
    rw [hz] at z
    exact z
  exact ⟨⟨_, he, rfl⟩, h _ he (Heap.get?_push_of_some _ (Heap.get?_push_size _ B.free)) fun b u x => Heap.get?_push_of_some _ (Heap.get?_push_of_some _ x)⟩
end
/-- the tuple at a, each item in a new pair -/
def IteT (K : PySem.W.Frag) (a : Addr) : It :=
  ⟨fun i H => ∃ (xs : List V) (x : V), SqT K H a xs ∧ xs[i]? = some x, fun i H v H' => ∃ T x, v = .ref T ∧ H T = none ∧ H' = upd H T (.tup [.int (i : Nat), x]) ∧ ∀ xs, SqT K H a xs → xs[i]? = some x, fun i H => ∃ xs : List V, SqT K H a xs ∧ xs.length = i⟩
theorem turn_enumT {P : Program} {w : World} {K : PySem.W.Frag} {elts : List Expr} {kk : Nat} {tpos : Pos} (a e it : Addr) :
    Turn P w K (.Tuple elts kk tpos) (IteT K a) [e, it] e (fun i h => (∃ old, IsEnum h e it ((i : Nat) : Int) old) ∧ h.IsTupleIter it a i ∧ e ≠ it) where
  mem := by simp
  obj := fun i h st b hb => by
    obtain ⟨⟨old, he⟩, ⟨o, ho, hc, hd⟩, _⟩ := st
    rcases (by simpa using hb : b = e ∨ b = it) with z | z
    · rw [z]
      exact ⟨_, he, fun v q => nomatch q⟩
    · rw [z]
      exact ⟨o, ho, fun v q => by rw [hd] at q; cases q⟩
  keep := fun i h h' st k => by
    obtain ⟨⟨old, he⟩, hi, hne⟩ := st
    exact ⟨⟨old, k e (by simp) _ he⟩, hi.at fun o q => k it (by simp) o q, hne⟩
  item := by
    intro X hP hw hK hc i pins s σ H E I hf st hg
    subst hP
    subst hw
    subst hK
    obtain ⟨⟨old, he⟩, hit, hne⟩ := st
    obtain ⟨xs, x, hq, hx⟩ := hg
    obtain ⟨its, rv, p, hz⟩ := I.tuple hq
    obtain ⟨u, hu, ru⟩ := rv.get hx
    have hel : e < s.heap.objs.size := Heap.lt_size he
    have hil : it < s.heap.objs.size := by
      obtain ⟨_, q, _⟩ := hit
      exact Heap.lt_size q
    have hhd : X.A.in1.handled = none := I.ok.hd hc
    by_cases hia : a = it
    · exfalso
      obtain ⟨o1, q1, c1, _⟩ := p
      obtain ⟨o2, q2, c2, _⟩ := hit
      rw [hia, q2] at q1
      cases q1
      rw [c1] at c2
      exact absurd c2 (by decide)
    have hea : e ≠ a := fun z => by
      obtain ⟨o1, q1, c1, _⟩ := p
      rw [← z, show s.heap.get? e = some _ from he] at q1
      cases q1
      have c2 : (Value.type "enumerate") = Value.type "tuple" := c1
      exact absurd c2 (by decide)
    have hlt : i < its.toArray.size := by
      rw [List.size_toArray]
      exact (List.getElem?_eq_some_iff.mp hu).1
    refine wpAny_pyNext_enum_itemC (Draws.tuple (prog := X.prog) (w := X.w) hhd it a hia its.toArray) he ⟨hit, p⟩ hlt hne (by simp [hne, hea]) fun y h' tk hy ho st' hT hsz hk => ?_
    obtain rfl : y = u := by
      have z : its.toArray[i]? = some u := by simpa using hu
      rw [z] at hy
      exact (Option.some.inj hy).symm
    refine ⟨_, rfl, wpAny_letOwnedTupleGo_enum (s := { s with heap := h', toks := tk + 1 }) ho fun h'' he' sb => ?_⟩
    have hT2 : h''.get? s.heap.objs.size = some { cls := .type "tuple", data := .seq #[.int i tk, y] } := (sb.2 _ (Nat.ne_of_gt hel)).trans hT
    have new : ObjOk X.prog X.w (upd H s.heap.objs.size (.tup [.int (i : Nat), x])) h'' s.heap.objs.size (.tup [.int (i : Nat), x]) :=
      ⟨by show 2 ≤ sizeLine; decide, [.int i tk, y], .cons ⟨_, rfl⟩ (.cons ru .nil), ⟨_, hT2, rfl, _, rfl⟩⟩
    have I1 : Inv X pins σ (upd H s.heap.objs.size (.tup [.int (i : Nat), x])) { s with heap := h'', toks := tk + 1 } :=
      I.turnedNew (ch := [e, it]) (fun b ob hb q => (sb.2 b (fun z => hb (by simp [z]))).trans (hk b ob (fun z => hb (by simp [z])) (fun z => hb (by simp [z])) q)) hf (Nat.le_refl _) new
    refine ⟨.ref s.heap.objs.size, _, I1, rfl, ⟨_, x, rfl, I.hok.fresh (Nat.le_refl _), rfl, fun ys hy => by rw [I.tuple_inj hy hq]; exact hx⟩, ⟨⟨y, ?_⟩, st'.1.at fun o q => (sb.2 it (Ne.symm hne)).trans q, hne⟩, fun b hb => ?_⟩
    · have e1 : ((i + 1 : Nat) : Int) = (i : Int) + 1 := by omega
      rw [e1]
      exact he'
    · have hb' : b < s.heap.objs.size := by
        rcases (by simpa using hb : b = e ∨ b = it) with z | z
        · rw [z]; exact hel
        · rw [z]; exact hil
      rw [upd_ne (Nat.ne_of_lt hb')]
      exact (hf b hb).1
  done := by
    intro X hP hw hK hc i pins s σ H E I hf st hg
    subst hP
    subst hw
    subst hK
    obtain ⟨⟨old, he⟩, hit, hne⟩ := st
    obtain ⟨xs, hq, hx⟩ := hg
    obtain ⟨its, rv, p, hz⟩ := I.tuple hq
    obtain ⟨f0, f1, f2, f3, f4, f5⟩ := hf it (by simp)
    have hia : a ≠ it := fun z => by
      obtain ⟨o1, q1, c1, _⟩ := p
      obtain ⟨o2, q2, c2, _⟩ := hit
      rw [z, q2] at q1
      cases q1
      rw [c1] at c2
      exact absurd c2 (by decide)
    have hn : i = its.toArray.size := by
      rw [List.size_toArray, ← hx]
      exact rv.length
    have st : it ≠ a → True := fun _ => trivial
    refine wpAny_pyNext_enum_endD (Draws.tuple (prog := X.prog) (w := X.w) (show X.A.in1.handled = none from I.ok.hd hc) it a hia its.toArray) he (hn ▸ ⟨hit, p⟩) fun h' eb => ⟨rfl, ?_⟩
    exact I.turned (t' := s.toks) (fun b o hb q => eb b o hb q) f0 f1 f3 f4 f5
  self := fun A i s Q E st h => by
    obtain ⟨⟨_, he⟩, _⟩ := st
    exact wpAny_pyIter_enum he h
def iEnumA (K : PySem.W.Frag) (ta : TA) : TI := fun σ H R => ta σ H fun vs H1 => ∃ a xs, vs = [.ref a] ∧ ((SqL K H1 a xs ∧ R (Ite K a) H1) ∨ (SqT K H1 a xs ∧ R (IteT K a) H1))
theorem pi_enumA {X : Cx} {e : Expr} {ta : TA} {p pos tpos : Pos} {elts : List Expr} {kk : Nat} (hg : Gl X "enumerate") (hm : X.mg "enumerate" = none) (ha : PA X [e] ta) (hs : starEach [e] X.env = [(false, eval e X.env)] := by rfl) :
    PI X (.Tuple elts kk tpos) (.Call (.Name "enumerate" p) [e] [] pos) (iEnumA X.K ta) := by
  refine ⟨fun pins s σ H R I h => ?_⟩
  refine Call_ (ld_blt I hg hm boot_enumerate (PyProof.Rows.callWith_type1 (thn (ha.run pos pins s σ H _ I h) fun us s1 ⟨vs, H1, I1, r1, q1⟩ => ?_) hs rfl))
  obtain ⟨a, xs, ex, q1⟩ := q1
  subst ex
  cases r1 with
  | cons r rr =>
    cases rr
    cases r
    have fp : ∀ b ∈ [s1.heap.objs.size + 1, s1.heap.objs.size], FpOk X pins H1 b := fun b hb => by
      have hle : s1.heap.objs.size ≤ b := by
        rcases (by simpa using hb : b = s1.heap.objs.size + 1 ∨ b = s1.heap.objs.size) with z | z
        · rw [z]; exact Nat.le_add_right _ _
        · rw [z]; exact Nat.le_refl _
      exact I1.fpOk hle (I1.hok.fresh hle)
    rcases q1 with ⟨hq, q⟩ | ⟨hq, q⟩
    · obtain ⟨its, rv, pl, hz⟩ := I1.list hq
      refine enum_begin1 (begins_list a its.toArray) pl.isList fun h' he hit hk => wpAny_pyIter_enum he ?_
      have I2 : Inv X pins σ H1 { s1 with heap := h' } := I1.kept (t' := s1.toks) hk
      exact ⟨s1.heap.objs.size + 1, [s1.heap.objs.size + 1, s1.heap.objs.size], _, _, H1, rfl, I2, turn_enum a (s1.heap.objs.size + 1) s1.heap.objs.size, ⟨⟨.none, he⟩, ⟨_, hit, rfl, rfl⟩, Nat.succ_ne_self _⟩, fp, q⟩
    · obtain ⟨its, rv, pl, hz⟩ := I1.tuple hq
      refine enum_begin1 (begins_tuple a its.toArray) pl fun h' he hit hk => wpAny_pyIter_enum he ?_
      have I2 : Inv X pins σ H1 { s1 with heap := h' } := I1.kept (t' := s1.toks) hk
      exact ⟨s1.heap.objs.size + 1, [s1.heap.objs.size + 1, s1.heap.objs.size], _, _, H1, rfl, I2, turn_enumT a (s1.heap.objs.size + 1) s1.heap.objs.size, ⟨⟨.none, he⟩, ⟨_, hit, rfl, rfl⟩, Nat.succ_ne_self _⟩, fp, q⟩
end DL
namespace DL
open PySem PySem.Spec PyProof.Rows L2

/-! ### targets -/
inductive Pat where
  | nm (i : Nat)
  | tu (l : List Nat)
def putAll : List Nat → List D → Sd → Option Sd
  | [], [], s => some s
  | i :: is, d :: ds, s => putAll is ds (s.put i (.v d))
  | _, _, _ => none
def patStore : Pat → D → Sd → Option Sd
  | .nm i, d, s => some (s.put i (.v d))
  | .tu is, .tup l, s => putAll is l s
  | .tu is, .lds l, s => putAll is l s
  | _, _, _ => none
def Pat.slots : Pat → List Nat
  | .nm i => [i]
  | .tu l => l
def gNames : List Nat → TGs
  | [] => gNil
  | i :: is => gCons (gName i) (gNames is)
def gPat (K : PySem.W.Frag) : Pat → TG
  | .nm i => gName i
  | .tu is => gTup K is.length (gNames is)
structure PPat (X : Cx) (tg : Expr) (p : Pat) : Prop where
  pg : PG X tg (gPat X.K p)
section
variable {X : Cx} {pos : Pos} {e : Expr} {es : List Expr}
theorem pp_name (i : Nat) {x : Str} (hN : X.N.Nodup) (hi : X.N[i]? = some x := by rfl) (hx : Loc X.env.scope x := by first | exact Or.inl rfl | exact Or.inr rfl) (hf : X.fn x = true ∨ X.env.scope.names.lookup x = some .local := by first | exact .inl rfl | exact .inr rfl | assumption) :
    PPat X (.Name x pos) (.nm i) := ⟨pg_name hN hi hx hf⟩
structure PPats (X : Cx) (es : List Expr) (is : List Nat) : Prop where
  pg : PGs X es (gNames is)
theorem pps_nil : PPats X [] [] := ⟨pgs_nil⟩
theorem pps_cons (i : Nat) {is : List Nat} {x : Str} (hN : X.N.Nodup) (h : PPats X es is) (hi : X.N[i]? = some x := by rfl) (hx : Loc X.env.scope x := by first | exact Or.inl rfl | exact Or.inr rfl) (hf : X.fn x = true ∨ X.env.scope.names.lookup x = some .local := by first | exact .inl rfl | exact .inr rfl | assumption)
    (hs : (assignEach (.Name x pos :: es) X.env).map (·.2) = assign (.Name x pos) X.env :: (assignEach es X.env).map (·.2) := by rfl) : PPats X (.Name x pos :: es) (i :: is) := ⟨pgs_cons (pg_name hN hi hx hf) h.pg hs⟩
theorem pp_tup {is : List Nat} {k : Nat} (hc : X.calm = true) (h : PPats X es is) (hn : (assignEach es X.env).length = is.length := by rfl) (hst : (assignEach es X.env).findIdx? (·.1) = none := by rfl) : PPat X (.Tuple es k pos) (.tu is) := ⟨pg_tup hc h.pg hn hst⟩
end
section
variable {G : GT} {K : PySem.W.Frag} {W : WX} {ow ow' ow0 : OW} {H H' H0 : Hp} {σ : L2.St} {s s' : Sd}
def setV : L2.St → List Nat → List V → L2.St
  | σ, i :: is, v :: vs => setV (σ.set i (some v)) is vs
  | σ, _, _ => σ
theorem putAll_ok : ∀ {is : List Nat} {ds : List D} {vs : List V} {σ : L2.St} {s s' : Sd} {Q : L2.St → Hp → Prop}, ER G ow H σ s → RepL G H ow ds vs → putAll is ds s = some s' → (∀ σ', (∃ us, σ' = setV σ is us) → ER G ow H σ' s' → Q σ' H) → gNames is vs σ H Q
  | [], [], vs, σ, s, s', Q, E, r, h, k => by
    rw [RepL] at r
    cases h
    exact ⟨r, k σ ⟨[], rfl⟩ E⟩
  | [], _ :: _, vs, σ, s, s', Q, E, r, h, k => by cases h
  | i :: is, [], vs, σ, s, s', Q, E, r, h, k => by cases h
  | i :: is, d :: ds, vs, σ, s, s', Q, E, r, h, k => by
    rw [RepL] at r
    obtain ⟨x, q, rfl, r1, r2⟩ := r
    refine ⟨x, q, rfl, ?_⟩
    exact putAll_ok (E.set (sv := .v d) r1) r2 h fun σ' ⟨us, e⟩ E' => k σ' ⟨x :: us, e⟩ E'
theorem pat_ok {p : Pat} {d : D} {v : V} {Q : L2.St → Hp → Prop} (E : ER G ow H σ s) (r : Rep G H ow d v) (h : patStore p d s = some s') (k : ∀ σ', (∃ us, σ' = setV σ p.slots us) → ER G ow H σ' s' → Q σ' H) : gPat K p v σ H Q := by
  cases p with
  | nm i =>
    cases h
    exact k _ ⟨[v], rfl⟩ (E.set (sv := .v d) r)
  | tu is =>
    cases d with
    | lds l =>
      rw [Rep] at r
      obtain ⟨a, xs, rfl, t, r⟩ := r
      have hl : ∀ {is : List Nat} {l : List D} {s : Sd}, putAll is l s = some s' → l.length = is.length := by
        intro is
        induction is with
        | nil => intro l s h; cases l with
          | nil => rfl
          | cons _ _ => cases h
        | cons i is ih => intro l s h; cases l with
          | nil => cases h
          | cons d l => exact congrArg (· + 1) (ih h)
      exact ⟨a, xs, rfl, t.sq, r.length.trans (hl h), putAll_ok E r h k⟩
    | tup l =>
      rw [Rep] at r
      obtain ⟨a, xs, rfl, t, r⟩ := r
      have hl : ∀ {is : List Nat} {l : List D} {s : Sd}, putAll is l s = some s' → l.length = is.length := by
        intro is
        induction is with
        | nil => intro l s h; cases l with
          | nil => rfl
          | cons _ _ => cases h
        | cons i is ih => intro l s h; cases l with
          | nil => cases h
          | cons d l => exact congrArg (· + 1) (ih h)
      exact ⟨a, xs, rfl, t.sq, r.length.trans (hl h), putAll_ok E r h k⟩
    | _ => cases h
end

/-! ### what is walked -/
abbrev DI := Sd → (List D → Sd → Prop) → DX → Prop
/-- from here on J hands out the items -/
structure Yields (G : GT) (J : It) (ow : OW) (H : Hp) (items : List D) : Prop where
  size : items.length ≤ sizeLine
  stop : ∀ ow' H', Ext ow H ow' H' → J.stop items.length H'
  go : ∀ ow' H' i d, Ext ow H ow' H' → items[i]? = some d → J.go i H' ∧ ∀ x H'', J.yld i H' x H'' → ∃ ow'', Ext ow' H' ow'' H'' ∧ (∀ σ s, ER G ow' H' σ s → ER G ow'' H'' σ s) ∧ Rep G H'' ow'' d x
def liftI (G : GT) (W : WX) (t : DI) : TI := fun σ H R => ∃ ow s Qd Ed, ER G ow H σ s ∧ t s Qd Ed ∧
  (∀ items s', Qd items s' → ∀ J H' ow', Ext ow H ow' H' → ER G ow' H' σ s' → Yields G J ow' H' items → R J H') ∧ exW G W ow H σ Ed
structure PDI (G : GT) (X : Cx) (W : WX) (tg iter : Expr) (t : DI) : Prop where
  pi : PI X tg iter (liftI G W t)
section
variable {X : Cx} {tg iter : Expr}
theorem PI.wk {t t' : TI} (h : PI X tg iter t) (w : ∀ σ H R, Fits H → t' σ H R → t σ H R) : PI X tg iter t' :=
  ⟨fun pins s σ H R I q => h.run pins s σ H R I (w σ H R (fits_of I) q)⟩
end
theorem PA.fitK {X : Cx} {es : List Expr} {t : TA} (h : PA X es t) : PA X es (fun σ H Q => t σ H fun vs H1 => Fits H1 → Q vs H1) :=
  ⟨fun pos pins s σ H Q I q => thn (h.run pos pins s σ H _ I q) fun us s1 ⟨vs, H1, I1, r1, q1⟩ => ⟨vs, H1, I1, r1, q1 (fits_of I1)⟩⟩
/-- a sequence is walked: nobody owns it any more -/
def seqOf : D → Option (List D)
  | .tup l => some l
  | .lst l => some l
  | .lds l => some l
  | _ => none
def dSeqI (te : DE) : DI := fun s Q E => te s (fun r s1 => bindO (settle r s1) fun p => bindO (seqOf p.1) fun l => Q l p.2) E
def rangeD (lo : Int) (n : Nat) : List D := (List.range n).map fun (i : Nat) => D.int (lo + (i : Int))
def intD : D → Option Int
  | .int i => some i
  | _ => none
theorem intD_some {d : D} {i : Int} (h : intD d = some i) : d = .int i := by
  cases d <;> first | (cases h; rfl) | cases h
def dRng1 (te : DE) : DI := fun s Q E => te s (fun r s1 => bindO (view s1 r) fun d => bindO (intD d) fun n => guardB (decide (-16777216 ≤ n) && decide (n ≤ 16777216)) (Q (rangeD 0 n.toNat) s1)) E
def dRng2 (ta tb : DE) : DI := fun s Q E => ta s (fun r1 s1 => tb s1 (fun r2 s2 => bindO (view s2 r1) fun d1 => bindO (view s2 r2) fun d2 => bindO (intD d1) fun a => bindO (intD d2) fun b => guardB (decide (-16777216 ≤ a) && decide (a ≤ 16777216) && decide (-16777216 ≤ b) && decide (b ≤ 16777216) && decide (b - a ≤ 16777216)) (Q (rangeD a (b - a).toNat) s2)) E) E
def numbered (n : Nat) : List D → List D
  | [] => []
  | d :: l => .tup [.int (n : Int), d] :: numbered (n + 1) l
def dEnum (te : DE) : DI := fun s Q E => te s (fun r s1 => bindO (settle r s1) fun p => bindO (seqOf p.1) fun l => Q (numbered 0 l) p.2) E
def zipped : List D → List D → List D
  | a :: l, b :: m => .tup [a, b] :: zipped l m
  | _, _ => []
def dZip (ta tb : DE) : DI := fun s Q E => ta s (fun r1 s1 => bindO (settle r1 s1) fun p => tb p.2 (fun r2 s2 => bindO (settle r2 s2) fun q => match p.1, q.1 with
  | .tup l, .tup m => Q (zipped l m) q.2
  | .lds l, .tup m => Q (zipped l m) q.2
  | .lds l, .lds m => Q (zipped l m) q.2
  | .tup l, .lds m => Q (zipped l m) q.2
  | .lst l, .lst m => Q (zipped l m) q.2
  | _, _ => False) E) E
section
variable {G : GT} {W : WX} {X : Cx} {tg a b e : Expr} {te ta tb : DE} {p pos : Pos} {K : PySem.W.Frag}
theorem yields_list {ow : OW} {H : Hp} {a : Addr} {xs : List V} {l : List D} (ft : xs.length ≤ sizeLine) (t : LstAt H ow a xs) (r : RepL G H ow l xs) : Yields G (Itl K a) ow H l where
  size := by rw [← r.length]; exact ft
  stop := fun ow' H' e => ⟨xs, sqL_of (t.ext e).2, by rw [r.length]; exact Nat.le_refl _⟩
  go := fun ow' H' i d e hd => by
    have t' := t.ext e
    obtain ⟨x, h1, h2⟩ := (RepL.ext e l xs r).get hd
    refine ⟨⟨xs, x, sqL_of t'.2, h1⟩, fun y H'' ⟨e1, q⟩ => ?_⟩
    subst e1
    have z := q xs (sqL_of t'.2)
    rw [h1] at z
    cases z
    exact ⟨ow', Ext.refl _ _, fun _ _ E => E, h2⟩
theorem yields_tup {ow : OW} {H : Hp} {a : Addr} {xs : List V} {l : List D} (ft : xs.length ≤ sizeLine) (t : TupQ H ow a xs) (r : RepL G H ow l xs) : Yields G (Itt K a) ow H l where
  size := by rw [← r.length]; exact ft
  stop := fun ow' H' e => ⟨xs, (t.ext e).sq, by rw [r.length]; exact Nat.le_refl _⟩
  go := fun ow' H' i d e hd => by
    have t' := t.ext e
    obtain ⟨x, h1, h2⟩ := (RepL.ext e l xs r).get hd
    refine ⟨⟨xs, x, t'.sq, h1⟩, fun y H'' ⟨e1, q⟩ => ?_⟩
    subst e1
    have z := q xs t'.sq
    rw [h1] at z
    cases z
    exact ⟨ow', Ext.refl _ _, fun _ _ E => E, h2⟩
theorem yields_rng {ow : OW} {H : Hp} {lo : Int} {n : Nat} (hn : n ≤ sizeLine) : Yields G (Itr lo n) ow H (rangeD lo n) where
  size := by unfold rangeD; rw [List.length_map, List.length_range]; exact hn
  stop := fun ow' H' e => by unfold rangeD; rw [List.length_map, List.length_range]; exact Nat.le_refl _
  go := fun ow' H' i d e hd => by
    have hi : i < n := by
      have z := (List.getElem?_eq_some_iff.mp hd).1
      unfold rangeD at z
      rw [List.length_map, List.length_range] at z
      exact z
    unfold rangeD at hd
    rw [List.getElem?_map, List.getElem?_range hi] at hd
    cases hd
    refine ⟨hi, fun y H'' ⟨e1, q⟩ => ?_⟩
    subst e1
    subst q
    exact ⟨ow', Ext.refl _ _, fun _ _ E => E, by rw [Rep]⟩
/-- pi_list, pi_tup in one -/
theorem pi_seq (hl : PE X e (liftE G W te)) : PI X tg e (fun σ H R => liftE G W te σ H fun x H1 => (∃ a xs, x = .ref a ∧ SqL X.K H1 a xs ∧ (Fits H1 → R (Itl X.K a) H1)) ∨ (∃ a xs, x = .ref a ∧ SqT X.K H1 a xs ∧ (Fits H1 → R (Itt X.K a) H1))) := by
  refine ⟨fun pins s σ H R I h => ?_⟩
  refine thn (hl.run pins s σ H _ I h) fun v s1 ⟨x, H1, I1, r1, q1⟩ => ?_
  have hx : ∀ {tl : TE}, (∀ (σ : L2.St) (H : Hp) (Q : VK), tl σ H Q → Q x H) → True := fun _ => trivial
  rcases q1 with ⟨a, xs, rfl, hq, q⟩ | ⟨a, xs, rfl, hq, q⟩
  · cases r1
    obtain ⟨its, r, pl, hz⟩ := I1.list hq
    refine wpAny_pyIter_list pl.isList ?_
    have I2 : Inv X pins σ H1 { s1 with heap := s1.heap.push { cls := .type "list_iterator", data := .fields #[.ref a, .int 0 0] } } := I1.kept (t' := s1.toks) fun b o e => Heap.get?_push_of_some _ e
    exact ⟨s1.heap.objs.size, [s1.heap.objs.size], _, _, H1, rfl, I2, turn_list a s1.heap.objs.size, ⟨_, Heap.get?_push_size _ rfl, rfl, rfl⟩, fun b hb => by
      obtain rfl := List.mem_singleton.mp hb
      exact I1.fpOk (Nat.le_refl _) (I1.hok.fresh (Nat.le_refl _)), q (fits_of I1)⟩
  · cases r1
    obtain ⟨its, r, pl, hz⟩ := I1.tuple hq
    refine wpAny_pyIter_tuple pl ?_
    have I2 : Inv X pins σ H1 { s1 with heap := s1.heap.push { cls := .type "tuple_iterator", data := .fields #[.ref a, .int 0 0] } } := I1.kept (t' := s1.toks) fun b o e => Heap.get?_push_of_some _ e
    exact ⟨s1.heap.objs.size, [s1.heap.objs.size], _, _, H1, rfl, I2, turn_tuple a s1.heap.objs.size, ⟨_, Heap.get?_push_size _ rfl, rfl, rfl⟩, fun b hb => by
      obtain rfl := List.mem_singleton.mp hb
      exact I1.fpOk (Nat.le_refl _) (I1.hok.fresh (Nat.le_refl _)), q (fits_of I1)⟩
theorem pdi_seq (h : PD G X W e te) : PDI G X W tg e (dSeqI te) := ⟨PI.wk (pi_seq h.pe) fun σ H R _ hq => by
  obtain ⟨ow, s, Qd, Ed, E, t, hQ, hE⟩ := hq
  refine ⟨ow, s, _, Ed, E, t, fun r s1 q1 v H1 ow1 e1 E1 R1 => ?_, hE⟩
  obtain ⟨⟨d, s2⟩, hs, q1⟩ := bindO_some q1
  obtain ⟨l, hl, q1⟩ := bindO_some q1
  obtain ⟨ow2, e2, E2, R2, _⟩ := settle_ok E1 e1 R1 hs
  cases d with
  | tup m =>
    cases hl
    rw [Rep] at R2
    obtain ⟨a, xs, rfl, t, r⟩ := R2
    exact .inr ⟨a, xs, rfl, t.sq, fun ft => hQ _ _ q1 _ _ _ e2 E2 (yields_tup (ft.tup _ _ t.2) (.inl t) r)⟩
  | lst m =>
    cases hl
    rw [Rep] at R2
    obtain ⟨a, xs, rfl, t, r⟩ := R2
    exact .inl ⟨a, xs, rfl, sqL_of t.2, fun ft => hQ _ _ q1 _ _ _ e2 E2 (yields_list (ft.lst _ _ t.2) t r)⟩
  | lds m =>
    cases hl
    rw [Rep] at R2
    obtain ⟨a, xs, rfl, t, r⟩ := R2
    exact .inr ⟨a, xs, rfl, t.sq, fun ft => hQ _ _ q1 _ _ _ e2 E2 (yields_tup (ft.tupQ (.inr t)) (.inr t) r)⟩
  | _ => cases hl⟩
theorem pdi_rng1 (hg : Gl X "range") (hm : X.mg "range" = none) (ha : PD G X W a ta) (hs : starEach [a] X.env = [(false, eval a X.env)] := by rfl) : PDI G X W tg (.Call (.Name "range" p) [a] [] pos) (dRng1 ta) :=
  ⟨PI.wk (pi_range1 hg hm (pa_cons ha.pe pa_nil hs) hs) fun σ H R _ hq => by
    obtain ⟨ow, s, Qd, Ed, E, t, hQ, hE⟩ := hq
    refine ⟨ow, s, _, Ed, E, t, fun r s1 q1 v H1 ow1 e1 E1 R1 => ?_, hE⟩
    obtain ⟨d, hd, q1⟩ := bindO_some q1
    have v1 := view_ok E1 R1 hd
    obtain ⟨n, hi, q1⟩ := bindO_some q1
    obtain rfl := intD_some hi
    obtain ⟨hn, q1⟩ := guardB_and q1
    simp only [Bool.and_eq_true, decide_eq_true_eq] at hn
    exact ⟨n, by rw [v1.int], by omega, by omega, hQ _ _ q1 _ _ _ e1 E1 (yields_rng (by rw [sizeLine_eq]; omega))⟩⟩
theorem pdi_rng2 (hg : Gl X "range") (hm : X.mg "range" = none) (ha : PD G X W a ta) (hb : PD G X W b tb) (hs : starEach [a, b] X.env = [(false, eval a X.env), (false, eval b X.env)] := by rfl) (hs2 : starEach [b] X.env = [(false, eval b X.env)] := by rfl) :
    PDI G X W tg (.Call (.Name "range" p) [a, b] [] pos) (dRng2 ta tb) :=
  ⟨PI.wk (pi_range2 hg hm (pa_cons ha.pe (pa_cons hb.pe pa_nil hs2) (by rw [hs, hs2])) hs hs2) fun σ H R _ hq => by
    obtain ⟨ow, s, Qd, Ed, E, t, hQ, hE⟩ := hq
    refine ⟨ow, s, _, Ed, E, t, fun r1 s1 q1 v H1 ow1 e1 E1 R1 => ⟨ow1, s1, _, Ed, E1, q1, fun r2 s2 q2 v2 H2 ow2 e2 E2 R2 => ?_, hE.from e1⟩, hE⟩
    obtain ⟨d1, h1, q2⟩ := bindO_some q2
    obtain ⟨d2, h2, q2⟩ := bindO_some q2
    have v1 := view_ok E2 (R1.ext e2) h1
    have v2' := view_ok E2 (R2.from e1) h2
    obtain ⟨i, hi, q2⟩ := bindO_some q2
    obtain ⟨j, hj, q2⟩ := bindO_some q2
    obtain rfl := intD_some hi
    obtain rfl := intD_some hj
    obtain ⟨hn, q2⟩ := guardB_and q2
    simp only [Bool.and_eq_true, decide_eq_true_eq] at hn
    obtain ⟨⟨⟨⟨n1, n2⟩, n3⟩, n4⟩, n5⟩ := hn
    exact ⟨i, j, by rw [v1.int, v2'.int], ⟨by omega, by omega, by omega, by omega⟩, hQ _ _ q2 _ _ _ (e1.trans e2) E2 (yields_rng (by rw [sizeLine_eq]; omega))⟩⟩
theorem numbered_get : ∀ {l : List D} {n i : Nat} {d : D}, (numbered n l)[i]? = some d → ∃ x, l[i]? = some x ∧ d = .tup [.int ((n + i : Nat) : Int), x]
  | [], n, i, d, h => by simp [numbered] at h
  | x :: l, n, 0, d, h => by simp [numbered] at h; exact ⟨x, rfl, by rw [← h]; rfl⟩
  | x :: l, n, i + 1, d, h => by
    obtain ⟨y, h1, h2⟩ := numbered_get (l := l) (n := n + 1) (i := i) (by simpa [numbered] using h)
    exact ⟨y, by simpa using h1, by rw [h2]; congr 3; omega⟩
theorem numbered_len : ∀ (l : List D) (n : Nat), (numbered n l).length = l.length
  | [], _ => rfl
  | _ :: l, n => by simp [numbered, numbered_len l]
theorem pair_new {ow : OW} {H : Hp} {T : Addr} {v1 v2 : V} {d1 d2 : D} (hT : H T = none) (h1 : Rep G H ow d1 v1) (h2 : Rep G H ow d2 v2) :
    ∃ ow'', Ext ow H ow'' (upd H T (.tup [v1, v2])) ∧ (∀ σ s, ER G ow H σ s → ER G ow'' (upd H T (.tup [v1, v2])) σ s) ∧ Rep G (upd H T (.tup [v1, v2])) ow'' (.tup [d1, d2]) (.ref T) :=
  ⟨ow1 ow T none, Ext.new hT, fun σ s E => E.ext_new hT rfl, Rep.tup_new (w := none) hT (RepL.cons h1 (RepL.cons h2 RepL.nil))⟩
theorem yields_enumL {ow : OW} {H : Hp} {a : Addr} {xs : List V} {l : List D} (ft : xs.length ≤ sizeLine) (t : LstAt H ow a xs) (r : RepL G H ow l xs) : Yields G (Ite K a) ow H (numbered 0 l) where
  size := by rw [numbered_len, ← r.length]; exact ft
  stop := fun ow' H' e => ⟨xs, sqL_of (t.ext e).2, by rw [r.length, numbered_len]; exact Nat.le_refl _⟩
  go := fun ow' H' i d e hd => by
    obtain ⟨y, hy, rfl⟩ := numbered_get hd
    have t' := t.ext e
    obtain ⟨x, h1, h2⟩ := (RepL.ext e l xs r).get hy
    refine ⟨⟨xs, x, sqL_of t'.2, h1⟩, fun v H'' ⟨T, z, e1, hT, e2, q⟩ => ?_⟩
    subst e1
    subst e2
    have q := q xs (sqL_of t'.2)
    rw [h1] at q
    cases q
    exact pair_new hT (by rw [Nat.zero_add, Rep]) h2
theorem yields_enumT {ow : OW} {H : Hp} {a : Addr} {xs : List V} {l : List D} (ft : xs.length ≤ sizeLine) (t : TupQ H ow a xs) (r : RepL G H ow l xs) : Yields G (IteT K a) ow H (numbered 0 l) where
  size := by rw [numbered_len, ← r.length]; exact ft
  stop := fun ow' H' e => ⟨xs, (t.ext e).sq, by rw [r.length, numbered_len]⟩
  go := fun ow' H' i d e hd => by
    obtain ⟨y, hy, rfl⟩ := numbered_get hd
    have t' := t.ext e
    obtain ⟨x, h1, h2⟩ := (RepL.ext e l xs r).get hy
    refine ⟨⟨xs, x, t'.sq, h1⟩, fun v H'' ⟨T, z, e1, hT, e2, q⟩ => ?_⟩
    subst e1
    subst e2
    have q := q xs t'.sq
    rw [h1] at q
    cases q
    exact pair_new hT (by rw [Nat.zero_add, Rep]) h2
theorem pdi_enum {elts : List Expr} {kk : Nat} {tpos : Pos} (hg : Gl X "enumerate") (hm : X.mg "enumerate" = none) (ha : PD G X W e te) (hs : starEach [e] X.env = [(false, eval e X.env)] := by rfl) :
    PDI G X W (.Tuple elts kk tpos) (.Call (.Name "enumerate" p) [e] [] pos) (dEnum te) :=
  ⟨PI.wk (pi_enumA hg hm (PA.fitK (pa_cons ha.pe pa_nil hs)) hs) fun σ H R _ hq => by
    obtain ⟨ow, s, Qd, Ed, E, t, hQ, hE⟩ := hq
    refine ⟨ow, s, _, Ed, E, t, fun r s1 q1 v H1 ow1 e1 E1 R1 => ?_, hE⟩
    intro ft
    obtain ⟨⟨d, s2⟩, hs, q1⟩ := bindO_some q1
    obtain ⟨l, hl, q1⟩ := bindO_some q1
    obtain ⟨ow2, e2, E2, R2, _⟩ := settle_ok E1 e1 R1 hs
    cases d with
    | tup m =>
      cases hl
      rw [Rep] at R2
      obtain ⟨a, xs, rfl, t, r⟩ := R2
      exact ⟨a, xs, rfl, .inr ⟨t.sq, hQ _ _ q1 _ _ _ e2 E2 (yields_enumT (ft.tup _ _ t.2) (.inl t) r)⟩⟩
    | lst m =>
      cases hl
      rw [Rep] at R2
      obtain ⟨a, xs, rfl, t, r⟩ := R2
      exact ⟨a, xs, rfl, .inl ⟨sqL_of t.2, hQ _ _ q1 _ _ _ e2 E2 (yields_enumL (ft.lst _ _ t.2) t r)⟩⟩
    | lds m =>
      cases hl
      rw [Rep] at R2
      obtain ⟨a, xs, rfl, t, r⟩ := R2
      exact ⟨a, xs, rfl, .inr ⟨t.sq, hQ _ _ q1 _ _ _ e2 E2 (yields_enumT (ft.tupQ (.inr t)) (.inr t) r)⟩⟩
    | _ => cases hl⟩
end
end DL
namespace DL
open PySem PySem.Spec PyProof.Rows L2

/-! ### zip -/
section
variable {G : GT} {W : WX} {X : Cx} {tg a b e : Expr} {te ta tb : DE} {p pos : Pos} {K : PySem.W.Frag}
theorem zipped_get : ∀ {l m : List D} {i : Nat} {d : D}, (zipped l m)[i]? = some d → ∃ x y, l[i]? = some x ∧ m[i]? = some y ∧ d = .tup [x, y]
  | [], m, i, d, h => by simp [zipped] at h
  | x :: l, [], i, d, h => by simp [zipped] at h
  | x :: l, y :: m, 0, d, h => by simp [zipped] at h; exact ⟨x, y, rfl, rfl, h.symm⟩
  | x :: l, y :: m, i + 1, d, h => by
    obtain ⟨u, v, h1, h2, h3⟩ := zipped_get (l := l) (m := m) (i := i) (by simpa [zipped] using h)
    exact ⟨u, v, by simpa using h1, by simpa using h2, h3⟩
theorem zipped_len : ∀ (l m : List D), (zipped l m).length = min l.length m.length
  | [], m => by simp [zipped]
  | x :: l, [] => by simp [zipped]
  | x :: l, y :: m => by simp [zipped, zipped_len l m]
theorem yields_zipT {ow : OW} {H : Hp} {a b : Addr} {xs ys : List V} {l m : List D} (ft : xs.length ≤ sizeLine) (t : TupQ H ow a xs) (u : TupQ H ow b ys) (r : RepL G H ow l xs) (q : RepL G H ow m ys) : Yields G (RZ.ItzT K a b) ow H (zipped l m) where
  size := by rw [zipped_len, ← r.length]; exact Nat.le_trans (Nat.min_le_left _ _) ft
  stop := fun ow' H' e => ⟨xs, ys, (t.ext e).sq, (u.ext e).sq, by rw [zipped_len, r.length, q.length]; omega⟩
  go := fun ow' H' i d e hd => by
    obtain ⟨d1, d2, hx, hy, rfl⟩ := zipped_get hd
    have t' := t.ext e
    have u' := u.ext e
    obtain ⟨x, h1, h2⟩ := (RepL.ext e l xs r).get hx
    obtain ⟨y, k1, k2⟩ := (RepL.ext e m ys q).get hy
    refine ⟨⟨xs, ys, x, y, t'.sq, u'.sq, h1, k1⟩, fun v H'' ⟨T, z1, z2, e1, hT, e2, w1, w2⟩ => ?_⟩
    subst e1
    subst e2
    have w1 := w1 xs t'.sq
    have w2 := w2 ys u'.sq
    rw [h1] at w1
    rw [k1] at w2
    cases w1
    cases w2
    exact pair_new hT h2 k2
theorem yields_zipL {ow : OW} {H : Hp} {a b : Addr} {xs ys : List V} {l m : List D} (ft : xs.length ≤ sizeLine) (t : LstAt H ow a xs) (u : LstAt H ow b ys) (r : RepL G H ow l xs) (q : RepL G H ow m ys) : Yields G (Itz K a b) ow H (zipped l m) where
  size := by rw [zipped_len, ← r.length]; exact Nat.le_trans (Nat.min_le_left _ _) ft
  stop := fun ow' H' e => ⟨xs, ys, sqL_of (t.ext e).2, sqL_of (u.ext e).2, by rw [zipped_len, r.length, q.length]; omega⟩
  go := fun ow' H' i d e hd => by
    obtain ⟨d1, d2, hx, hy, rfl⟩ := zipped_get hd
    have t' := t.ext e
    have u' := u.ext e
    obtain ⟨x, h1, h2⟩ := (RepL.ext e l xs r).get hx
    obtain ⟨y, k1, k2⟩ := (RepL.ext e m ys q).get hy
    refine ⟨⟨xs, ys, x, y, sqL_of t'.2, sqL_of u'.2, h1, k1⟩, fun v H'' ⟨T, z1, z2, e1, hT, e2, w1, w2⟩ => ?_⟩
    subst e1
    subst e2
    have w1 := w1 xs (sqL_of t'.2)
    have w2 := w2 ys (sqL_of u'.2)
    rw [h1] at w1
    rw [k1] at w2
    cases w1
    cases w2
    exact pair_new hT h2 k2
theorem pdi_zip {elts : List Expr} {kk : Nat} {tpos : Pos} (hg : Gl X "zip") (hm : X.mg "zip" = none) (ha : PD G X W a ta) (hb : PD G X W b tb)
    (hs : starEach [a, b] X.env = (false, eval a X.env) :: starEach [b] X.env := by rfl) (hs2 : starEach [b] X.env = (false, eval b X.env) :: starEach [] X.env := by rfl) (hpl : (backTo pos (starEach [b] X.env)).any (·.1) = false := by rfl) :
    PDI G X W (.Tuple elts kk tpos) (.Call (.Name "zip" p) [a, b] [] pos) (dZip ta tb) :=
  ⟨PI.wk (RZ.pi_zipA hg hm (PA.fitK (pa_cons ha.pe (pa_cons hb.pe pa_nil hs2) hs)) hs hpl) fun σ H R _ hq => by
    obtain ⟨ow, s, Qd, Ed, E, t, hQ, hE⟩ := hq
    refine ⟨ow, s, _, Ed, E, t, fun r1 s1 q1 v H1 ow1 e1 E1 R1 => ?_, hE⟩
    obtain ⟨⟨d1, s2⟩, hs1, q1⟩ := bindO_some q1
    obtain ⟨ow2, e2, E2, R2, _⟩ := settle_ok E1 e1 R1 hs1
    refine ⟨ow2, s2, _, Ed, E2, q1, fun r3 s3 q3 v3 H3 ow3 e3 E3 R3 => ?_, hE.from e2⟩
    intro ft
    obtain ⟨⟨d3, s4⟩, hs3, q3⟩ := bindO_some q3
    obtain ⟨ow4, e4, E4, R4, _⟩ := settle_ok E3 e3 R3 hs3
    have R2' := Rep.ext e4 d1 v R2
    have e04 := e2.trans e4
    cases d1 with
    | tup l =>
      cases d3 with
      | tup m =>
        rw [Rep] at R2'
        rw [Rep] at R4
        obtain ⟨a1, xs, rfl, t1, r1⟩ := R2'
        obtain ⟨a2, ys, rfl, t2, r2⟩ := R4
        exact ⟨a1, a2, xs, ys, rfl, .inr ⟨t1.sq, t2.sq, hQ _ _ q3 _ _ _ e04 E4 (yields_zipT (ft.tupQ (.inl t1)) (.inl t1) (.inl t2) r1 r2)⟩⟩
      | lds m =>
        rw [Rep] at R2'
        rw [Rep] at R4
        obtain ⟨a1, xs, rfl, t1, r1⟩ := R2'
        obtain ⟨a2, ys, rfl, t2, r2⟩ := R4
        exact ⟨a1, a2, xs, ys, rfl, .inr ⟨t1.sq, t2.sq, hQ _ _ q3 _ _ _ e04 E4 (yields_zipT (ft.tupQ (.inl t1)) (.inl t1) (.inr t2) r1 r2)⟩⟩
      | _ => exact q3.elim
    | lds l =>
      cases d3 with
      | tup m =>
        rw [Rep] at R2'
        rw [Rep] at R4
        obtain ⟨a1, xs, rfl, t1, r1⟩ := R2'
        obtain ⟨a2, ys, rfl, t2, r2⟩ := R4
        exact ⟨a1, a2, xs, ys, rfl, .inr ⟨t1.sq, t2.sq, hQ _ _ q3 _ _ _ e04 E4 (yields_zipT (ft.tupQ (.inr t1)) (.inr t1) (.inl t2) r1 r2)⟩⟩
      | lds m =>
        rw [Rep] at R2'
        rw [Rep] at R4
        obtain ⟨a1, xs, rfl, t1, r1⟩ := R2'
        obtain ⟨a2, ys, rfl, t2, r2⟩ := R4
        exact ⟨a1, a2, xs, ys, rfl, .inr ⟨t1.sq, t2.sq, hQ _ _ q3 _ _ _ e04 E4 (yields_zipT (ft.tupQ (.inr t1)) (.inr t1) (.inr t2) r1 r2)⟩⟩
      | _ => exact q3.elim
    | lst l =>
      cases d3 with
      | lst m =>
        rw [Rep] at R2' R4
        obtain ⟨a1, xs, rfl, t1, r1⟩ := R2'
        obtain ⟨a2, ys, rfl, t2, r2⟩ := R4
        exact ⟨a1, a2, xs, ys, rfl, .inl ⟨sqL_of t1.2, sqL_of t2.2, hQ _ _ q3 _ _ _ e04 E4 (yields_zipL (ft.lst _ _ t1.2) t1 t2 r1 r2)⟩⟩
      | _ => exact q3.elim
    | _ => exact q3.elim⟩
end

/-! ### for -/
def forD (p : Pat) (tb : DS) (D : Dn) : List DL.D → Sd → Prop
  | [], s => D.nx s
  | d :: ds, s => bindO (patStore p d s) fun s1 => tb { D with nx := forD p tb D ds, ct := forD p tb D ds, bk := D.nx } s1
def dFor (ti : DI) (p : Pat) (tb : DS) : DS := fun D s => ti s (fun items s1 => forD p tb D items s1) D.ex
section
variable {G : GT} {W : WX} {X : Cx} {tg iter : Expr} {ti : DI} {p : Pat} {tb : DS} {body : List Stmt} {pos : Pos}
theorem drop_get {α : Type} {l : List α} {i : Nat} {a : α} {r : List α} (h : l.drop i = a :: r) : l[i]? = some a ∧ l.drop (i + 1) = r := by
  have h1 : (l.drop i)[0]? = some a := by rw [h]; rfl
  rw [List.getElem?_drop] at h1
  refine ⟨by simpa using h1, ?_⟩
  have h2 : (l.drop i).drop 1 = r := by rw [h]; rfl
  rw [List.drop_drop] at h2
  exact h2
theorem pds_for (hp : PassesOwn (model X.prog X.w) X.A X.env X.xe) (hc : X.calm = true) (hi : PDI G X W tg iter ti) (hg : PPat X tg p) (hb : PDSs G X W body tb) (hs : ∀ x, foldedSetIterable iter X.env x = pure x := by intro _; rfl) :
    PDS G X W (.For tg iter body [] pos) (dFor ti p tb) := ⟨PS.wk (ps_for hp hc hi.pi hg.pg hb.ps hs) fun D σ H _ h => by
  obtain ⟨ow, s, Dd, E, t, L⟩ := h
  refine ⟨ow, s, _, _, E, t, fun items s1 q1 J H1 ow1 e1 E1 Y => ?_, L.exW σ⟩
  have L1 := L.from e1
  refine ⟨fun i m σ2 H2 => ∃ ow2 s2, Ext ow1 H1 ow2 H2 ∧ ER G ow2 H2 σ2 s2 ∧ m = items.length - i ∧ i ≤ items.length ∧ forD p tb Dd (items.drop i) s2, ⟨items.length, ow1, s1, Ext.refl _ _, E1, rfl, Nat.zero_le _, q1⟩, ?_⟩
  rintro i m σ2 H2 ⟨ow2, s2, e2, E2, rfl, hle, q2⟩
  cases hd : items.drop i with
  | nil =>
    have hi : i = items.length := by
      have := List.drop_eq_nil_iff.mp hd
      omega
    rw [hd] at q2
    rw [hi]
    exact .inl ⟨Y.stop _ _ e2, L1.nx _ q2 _ _ _ e2 E2⟩
  | cons d r =>
    obtain ⟨g1, g2⟩ := drop_get hd
    have hlt : i < items.length := (List.getElem?_eq_some_iff.mp g1).1
    rw [hd] at q2
    obtain ⟨hgo, hy⟩ := Y.go _ _ i d e2 g1
    refine .inr ⟨hgo, fun σ3 H3 => ∃ ow3 s3, Ext ow1 H1 ow3 H3 ∧ ER G ow3 H3 σ3 s3 ∧ forD p tb Dd r s3, fun σ3 H3 ⟨ow3, s3, e3, E3, q3⟩ => ⟨items.length - (i + 1), by omega, ow3, s3, e3, E3, rfl, hlt, by rw [g2]; exact q3⟩, fun x H3 hyx => ?_⟩
    obtain ⟨ow3, e3, f3, R3⟩ := hy x H3 hyx
    obtain ⟨s3, hs3, q3⟩ := bindO_some q2
    have e23 := e2.trans e3
    have L3 := L1.from e23
    refine pat_ok (f3 _ _ E2) R3 hs3 fun σ4 _ E4 => ?_
    exact ⟨ow3, s3, _, E4, q3, ⟨fun s5 q5 σ5 H5 ow5 e5 E5 => ⟨ow5, s5, e23.trans e5, E5, q5⟩, L3.rt, L3.nx, fun s5 q5 σ5 H5 ow5 e5 E5 => ⟨ow5, s5, e23.trans e5, E5, q5⟩, L3.ex⟩⟩⟩
end

/-! ### [.. for .. in .. if ..] -/
def clrN {α : Type} : List (Option α) → Nat → List (Option α)
  | [], _ => []
  | _ :: l, 0 => none :: l
  | x :: l, n + 1 => x :: clrN l n
theorem clrN_eq {α : Type} : ∀ (l : List (Option α)) (i : Nat), clrN l i = l.set i none
  | [], _ => rfl
  | x :: l, 0 => rfl
  | x :: l, n + 1 => by simp [clrN, clrN_eq l n]
def wipeE (e : List (Option Sv)) : List Nat → List (Option Sv)
  | [] => e
  | i :: is => clrN (wipeE e is) i
def Sd.wipe (s : Sd) (vs : List Nat) : Sd := ⟨wipeE s.e vs, s.g⟩
/-- behind the block: its own names as they were ahead of it (what is owned is forgotten) -/
def keepV : Option Sv → Option Sv
  | some (.v d) => some (.v d)
  | _ => none
def putO {α : Type} : List (Option α) → Nat → Option α → List (Option α)
  | [], _, _ => []
  | _ :: l, 0, a => a :: l
  | x :: l, n + 1, a => x :: putO l n a
theorem putO_eq {α : Type} : ∀ (l : List (Option α)) (i : Nat) (a : Option α), putO l i a = l.set i a
  | [], _, _ => rfl
  | x :: l, 0, a => rfl
  | x :: l, n + 1, a => by simp [putO, putO_eq l n a]
def backE (e0 e : List (Option Sv)) : List Nat → List (Option Sv)
  | [] => e
  | i :: is => putO (backE e0 e is) i (keepV (nthO e0 i))
def Sd.back (s0 s : Sd) (vs : List Nat) : Sd := ⟨backE s0.e s.e vs, s.g⟩
def lcD (p : Pat) (tt : DT) (te : DE) (vs : List Nat) (s0 : Sd) (Q : DK) (E : DX) : List DL.D → List DL.D → Sd → Prop
  | [], acc, s => Q (.ol acc) s
  | d :: ds, acc, s => bindO (patStore p d (s.wipe vs)) fun s1 => tt s1 (fun b s2 => match b with
    | true => te s2 (fun r s3 => bindO (settle r s3) fun q => lcD p tt te vs s0 Q E ds (acc ++ [q.1]) (s0.back q.2 vs)) E
    | false => lcD p tt te vs s0 Q E ds acc (s0.back s2 vs)) E
def dLc (ti : DI) (p : Pat) (tt : DT) (te : DE) (vs : List Nat) : DE := fun s Q E => ti s (fun items s1 => lcD p tt te vs s1 Q (fun _ _ => False) items [] s1) E
end DL
namespace DL
open PySem PySem.Spec PyProof.Rows L2

section
variable {G : GT} {ow ow' ow0 : OW} {H H' H0 : Hp} {σ σ' : L2.St} {s s' s0 : Sd}
def Ow.ts : Ow → Bool
  | .tmp => true
  | .slot _ => true
  | _ => false
/-- what one owner has may change: nobody else's data hangs on it -/
def Off (w : Ow) (ow : OW) (H H' : Hp) : Prop := Ow.ts w = true ∧ ∀ b o, H b = some o → ow b ≠ some w → H' b = some o
theorem Off.none {w : Ow} {a : Addr} {o : HO} (f : Off w ow H H') (h : H a = some o) (n : ow a = none) : H' a = some o := f.2 a o h (by rw [n]; intro z; cases z)
theorem Off.other {w u : Ow} {a : Addr} {o : HO} (f : Off w ow H H') (h : H a = some o) (n : ow a = some u) (hu : u ≠ w) : H' a = some o := f.2 a o h (by rw [n]; intro z; cases z; exact hu rfl)
theorem Ow.ts_ne {w u : Ow} (h : Ow.ts w = true) (k : Ow.ts u = false) : u ≠ w := fun z => by rw [z, h] at k; cases k
mutual
theorem Rep.off {w : Ow} (f : Off w ow H H') : ∀ (d : D) (v : V), Rep G H ow d v → Rep G H' ow d v
  | .non, _, h => by rw [Rep] at h ⊢; exact h
  | .bl _, _, h => by rw [Rep] at h ⊢; exact h
  | .int _, _, h => by rw [Rep] at h ⊢; exact h
  | .str _, _, h => by rw [Rep] at h ⊢; exact h
  | .tup l, v, h => by
    rw [Rep] at h ⊢
    obtain ⟨a, xs, r, t, q⟩ := h
    exact ⟨a, xs, r, ⟨t.1, f.none t.2 t.1⟩, RepL.off f l xs q⟩
  | .lst l, v, h => by
    rw [Rep] at h ⊢
    obtain ⟨a, xs, r, t, q⟩ := h
    exact ⟨a, xs, r, ⟨t.1, f.none t.2 t.1⟩, RepL.off f l xs q⟩
  | .dic tb ks vs, v, h => by
    rw [Rep] at h ⊢
    obtain ⟨a, xs, r, n, t, q⟩ := h
    exact ⟨a, xs, r, n, t.same fun o z => f.none z n, RepL.off f vs xs q⟩
  | .exc k d, v, h => by
    rw [Rep] at h ⊢
    obtain ⟨a, x, r, n, t, q⟩ := h
    refine ⟨a, x, r, n, ?_, Rep.off f d x q⟩
    rcases t with ⟨dx, m, h1, h2, h3⟩ | ⟨h1, h2⟩
    · exact .inl ⟨dx, m, f.none h1 n, h2, f.none h3 h2⟩
    · exact .inr ⟨f.none h1 n, h2⟩
  | .obj n, v, h => by
    rw [Rep] at h ⊢
    obtain ⟨a, r, n', i⟩ := h
    obtain ⟨o, ho⟩ := Option.isSome_iff_exists.mp i
    exact ⟨a, r, n', by rw [f.other ho n' (Ow.ts_ne f.1 rfl)]; rfl⟩
  | .dr, v, h => by
    rw [Rep] at h ⊢
    obtain ⟨a, r, n', i⟩ := h
    obtain ⟨o, ho⟩ := Option.isSome_iff_exists.mp i
    exact ⟨a, r, n', by rw [f.other ho n' (Ow.ts_ne f.1 rfl)]; rfl⟩
  | .fn n, v, h => by rw [Rep] at h ⊢; exact h
  | .clo c1 c q ds vs, v, h => by
    rw [Rep] at h ⊢
    obtain ⟨r, n, t, p⟩ := h
    exact ⟨r, n, f.none t n, RepL.off f ds vs p⟩
  | .scr n, v, h => by
    rw [Rep] at h ⊢
    obtain ⟨a, r, i⟩ := h
    exact ⟨a, r, i.imp (fun ⟨n', o, xs, ho, i⟩ => ⟨n', o, xs, f.none ho n', i⟩) id⟩
  | .lds l, v, h => by
    rw [Rep] at h ⊢
    obtain ⟨a, xs, r, ⟨n, o, d, t⟩, q⟩ := h
    exact ⟨a, xs, r, ⟨n, o, d, f.none t n⟩, RepL.off f l xs q⟩
theorem RepL.off {w : Ow} (f : Off w ow H H') : ∀ (l : List D) (xs : List V), RepL G H ow l xs → RepL G H' ow l xs
  | [], _, h => by rw [RepL] at h ⊢; exact h
  | d :: l, xs, h => by
    rw [RepL] at h ⊢
    obtain ⟨x, r, e1, q1, q2⟩ := h
    exact ⟨x, r, e1, Rep.off f d x q1, RepL.off f l r q2⟩
end
theorem RepS.off {w : Ow} {i : Nat} (f : Off w ow H H') (hw : w ≠ .slot i) {sv : Sv} {v : V} (h : RepS G ow H i sv v) : RepS G ow H' i sv v := by
  cases sv with
  | v d => exact Rep.off f d v h
  | ol l =>
    obtain ⟨a, xs, r, o, t, q⟩ := h
    exact ⟨a, xs, r, o, f.other t o (Ne.symm hw), RepL.off f l xs q⟩
  | od tb ks vs =>
    obtain ⟨a, xs, r, o, t, q⟩ := h
    exact ⟨a, xs, r, o, t.same fun u z => f.other z o (Ne.symm hw), RepL.off f vs xs q⟩
theorem Off.upd {w : Ow} {a : Addr} {o : HO} (hw : Ow.ts w = true) (h : ow a = some w) : Off w ow H (upd H a o) := ⟨hw, fun b u e n => by rw [upd_ne (fun z => n (by rw [z]; exact h))]; exact e⟩
/-- one thing in flight, or one slot's, is written -/
theorem GR.upd_own {w : Ow} {a : Addr} {o : HO} (hw : Ow.ts w = true) (h : ow a = some w) {g : Gst} (q : GR G ow H g) : GR G ow (upd H a o) g := by
  have f : Off w ow H (upd H a o) := Off.upd hw h
  have nb : ∀ {b : Addr} {u : Ow}, ow b = some u → Ow.ts u = false → b ≠ a := fun e n z => by rw [z, h] at e; cases e; rw [hw] at n; cases n
  refine ⟨fun b e i => ?_, fun b n e i => ?_, fun b c n e1 e2 i1 i2 => ?_, fun p hp => ?_⟩
  · have hb := nb e rfl
    rw [upd_ne hb] at i
    obtain ⟨m, t, c, gs, h1, h2, h3, h4⟩ := q.dr b e i
    exact ⟨m, t, c, gs, by rw [upd_ne hb]; exact h1, h2, by rw [upd_ne (nb h2 rfl)]; exact h3, h4⟩
  · have hb := nb e rfl
    rw [upd_ne hb] at i
    obtain ⟨ob, dx, fs, h1, h2, h3⟩ := q.ob b n e i
    exact ⟨ob, dx, fs, h1, by rw [upd_ne hb]; exact h2, h3.imp fun d v z => Rep.off f d v z⟩
  · rw [upd_ne (nb e1 rfl)] at i1
    rw [upd_ne (nb e2 rfl)] at i2
    exact q.inj b c n e1 e2 i1 i2
  · obtain ⟨h1, h2⟩ := q.tab p hp
    exact ⟨h1, h2.imp (upd_ne (nb h1 rfl)) fun c n t => ⟨n, f.none t n⟩⟩
theorem ER.upd_tmp {a : Addr} {o : HO} (h : ow a = some .tmp) (E : ER G ow H σ s) : ER G ow (upd H a o) σ s where
  len := E.len
  sl := fun i sv e => by
    obtain ⟨v, h1, h2⟩ := E.sl i sv e
    exact ⟨v, h1, h2.off (Off.upd rfl h) (by intro z; cases z)⟩
  gr := E.gr.upd_own rfl h
/-- a slot's own list or dict is changed -/
theorem ER.upd_slot {a : Addr} {o : HO} {i : Nat} {v : V} {sv : Sv} (h : ow a = some (.slot i)) (E : ER G ow H σ s) (hv : σ[i]? = some (some v)) (hs : RepS G ow (upd H a o) i sv v) : ER G ow (upd H a o) σ (s.put i sv) where
  len := by rw [E.len]; exact (setN_len _ _ _).symm
  sl := fun j sv' e => by
    rcases setN_get e with ⟨rfl, rfl⟩ | ⟨hj, e⟩
    · exact ⟨v, hv, hs⟩
    · obtain ⟨v', h1, h2⟩ := E.sl j sv' e
      exact ⟨v', h1, h2.off (Off.upd rfl h) (by intro z; cases z; exact hj rfl)⟩
  gr := E.gr.upd_own rfl h
theorem Ext.upd_slot {a : Addr} {o : HO} {i : Nat} (e : Ext ow H ow' H') (h : ow' a = some (.slot i)) : Ext ow H ow' (upd H' a o) where
  keep := fun b u q l => by
    have n : b ≠ a := fun z => by
      subst z
      rcases e.own b u q with k | ⟨k, _⟩
      · rw [← k, h] at l; cases l
      · rw [loose_of_slot k] at l; cases l
    rw [upd_ne n]; exact e.keep b u q l
  there := fun b u q => by
    by_cases z : b = a
    · subst z; exact ⟨_, upd_same⟩
    · rw [upd_ne z]; exact e.there b u q
  own := e.own
theorem Ext.upd_new {a : Addr} {o : HO} (e : Ext ow H ow' H') (h : H a = none) : Ext ow H ow' (upd H' a o) where
  keep := fun b u q l => by rw [upd_ne (ne_of_none q h)]; exact e.keep b u q l
  there := fun b u q => by rw [upd_ne (ne_of_none q h)]; exact e.there b u q
  own := e.own

theorem wipe_in {i : Nat} : ∀ {vs : List Nat}, i ∈ vs → i < σ.length → (wipe σ vs)[i]? = some none
  | [], h, _ => by cases h
  | v :: vs, h, hl => by
    unfold wipe
    by_cases e : v = i
    · subst e
      rw [List.getElem?_set_self (by rw [wipe_length]; exact hl)]
    · rw [List.getElem?_set_ne e]
      rcases List.mem_cons.mp h with z | z
      · exact absurd z.symm e
      · exact wipe_in z hl
theorem wipeE_len : ∀ (e : List (Option Sv)) (vs : List Nat), (wipeE e vs).length = e.length
  | _, [] => rfl
  | e, v :: vs => by unfold wipeE; rw [clrN_eq, List.length_set, wipeE_len e vs]
theorem wipeE_get {e : List (Option Sv)} {i : Nat} {sv : Sv} : ∀ {vs : List Nat}, (wipeE e vs)[i]? = some (some sv) → e[i]? = some (some sv) ∧ i ∉ vs
  | [], h => ⟨h, by simp⟩
  | v :: vs, h => by
    unfold wipeE at h
    rw [clrN_eq] at h
    by_cases hi : v = i
    · subst hi
      by_cases hv : v < (wipeE e vs).length
      · rw [List.getElem?_set_self hv] at h; cases h
      · rw [List.getElem?_eq_none (by simpa using hv)] at h; cases h
    · rw [List.getElem?_set_ne hi] at h
      obtain ⟨h1, h2⟩ := wipeE_get h
      exact ⟨h1, by simp only [List.mem_cons, not_or]; exact ⟨fun z => hi z.symm, h2⟩⟩
theorem ER.wipe (E : ER G ow H σ s) (vs : List Nat) : ER G ow H (wipe σ vs) (s.wipe vs) where
  len := by rw [wipe_length, E.len]; exact (wipeE_len _ _).symm
  sl := fun i sv e => by
    obtain ⟨h1, h2⟩ := wipeE_get e
    obtain ⟨v, h3, h4⟩ := E.sl i sv h1
    exact ⟨v, by rw [wipe_out h2]; exact h3, h4⟩
  gr := E.gr
theorem wipe_set {i : Nat} {x : Option V} : ∀ {vs : List Nat}, i ∈ vs → L2.wipe (σ.set i x) vs = L2.wipe σ vs
  | [], h => by cases h
  | v :: vs, h => by
    have main : ∀ (us : List Nat) (j : Nat), (L2.wipe (σ.set i x) us)[j]? = if j ∈ us then (L2.wipe σ us)[j]? else (σ.set i x)[j]? := by
      intro us j
      by_cases q : j ∈ us
      · rw [if_pos q]
        by_cases hl : j < σ.length
        · rw [wipe_in q hl, wipe_in q (by rw [List.length_set]; exact hl)]
        · rw [List.getElem?_eq_none (by rw [wipe_length, List.length_set]; omega), List.getElem?_eq_none (by rw [wipe_length]; omega)]
      · rw [if_neg q, wipe_out q]
    refine List.ext_getElem? fun j => ?_
    rw [main]
    by_cases q : j ∈ v :: vs
    · rw [if_pos q]
    · rw [if_neg q, wipe_out q, List.getElem?_set_ne (fun z => q (by rw [← z]; exact h))]
theorem wipe_setV : ∀ {is : List Nat} {us : List V} {vs : List Nat} {σ : L2.St}, (∀ i ∈ is, i ∈ vs) → L2.wipe (setV σ is us) vs = L2.wipe σ vs
  | [], us, vs, σ, _ => by unfold setV; rfl
  | i :: is, [], vs, σ, _ => rfl
  | i :: is, u :: us, vs, σ, h => by
    show L2.wipe (setV (σ.set i (some u)) is us) vs = _
    rw [wipe_setV fun j hj => h j (List.mem_cons_of_mem _ hj), wipe_set (h i List.mem_cons_self)]
theorem wipe_wipe : ∀ (vs us : List Nat) (σ : L2.St), (∀ i ∈ us, i ∈ vs) → L2.wipe (L2.wipe σ us) vs = L2.wipe σ vs
  | vs, [], σ, _ => rfl
  | vs, u :: us, σ, h => by
    show L2.wipe ((L2.wipe σ us).set u none) vs = _
    rw [wipe_set (h u List.mem_cons_self), wipe_wipe vs us σ fun i hi => h i (List.mem_cons_of_mem _ hi)]
theorem wipe_eq_out {vs : List Nat} (h : L2.wipe σ' vs = L2.wipe σ vs) {i : Nat} (hi : i ∉ vs) : σ'[i]? = σ[i]? := by
  rw [← wipe_out hi, ← wipe_out (σ := σ) hi, h]
theorem backE_len : ∀ (e0 e : List (Option Sv)) (vs : List Nat), (backE e0 e vs).length = e.length
  | _, _, [] => rfl
  | e0, e, v :: vs => by unfold backE; rw [putO_eq, List.length_set, backE_len e0 e vs]
theorem backE_get {e0 e : List (Option Sv)} {i : Nat} {sv : Sv} : ∀ {vs : List Nat}, (backE e0 e vs)[i]? = some (some sv) → (i ∉ vs ∧ e[i]? = some (some sv)) ∨ (∃ d, sv = .v d ∧ nthO e0 i = some (.v d))
  | [], h => .inl ⟨by simp, h⟩
  | v :: vs, h => by
    unfold backE at h
    rw [putO_eq] at h
    by_cases hi : v = i
    · subst hi
      by_cases hv : v < (backE e0 e vs).length
      · rw [List.getElem?_set_self hv] at h
        have h := Option.some.inj h
        cases q : nthO e0 v with
        | none => rw [q] at h; cases h
        | some u =>
          rw [q] at h
          cases u with
          | v d => cases h; exact .inr ⟨d, rfl, rfl⟩
          | _ => cases h
      · rw [List.getElem?_eq_none (by simpa using hv)] at h; cases h
    · rw [List.getElem?_set_ne hi] at h
      rcases backE_get h with ⟨h1, h2⟩ | h2
      · exact .inl ⟨by simp only [List.mem_cons, not_or]; exact ⟨fun z => hi z.symm, h1⟩, h2⟩
      · exact .inr h2
theorem ER.back (E0 : ER G ow0 H0 σ s0) (e : Ext ow0 H0 ow H) (E : ER G ow H σ' s) {vs : List Nat} (hw : L2.wipe σ' vs = L2.wipe σ vs) : ER G ow H σ (s0.back s vs) where
  len := by
    have h1 : (L2.wipe σ' vs).length = (L2.wipe σ vs).length := by rw [hw]
    rw [wipe_length, wipe_length] at h1
    rw [← h1, E.len]
    exact (backE_len _ _ _).symm
  sl := fun i sv q => by
    rcases backE_get q with ⟨h1, h2⟩ | ⟨d, rfl, h2⟩
    · obtain ⟨v, h3, h4⟩ := E.sl i sv h2
      exact ⟨v, by rw [← wipe_eq_out hw h1]; exact h3, h4⟩
    · obtain ⟨v, h3, h4⟩ := E0.get h2
      exact ⟨v, h3, Rep.ext e d v h4⟩
  gr := E.gr
end

/-! ### the rule -/
def dYes : DT := fun s Q _ => Q true s
structure PDTs (G : GT) (X : Cx) (W : WX) (ifs : List Expr) (t : DT) : Prop where
  pt : PTs X ifs (liftT G W t)
abbrev W0 : WX := fun _ _ _ _ => False
theorem lc_main {G : GT} {W : WX} {K : PySem.W.Frag} {ti : DI} {p : Pat} {te : DE} {tt : DT} {vs : List Nat} {σ : L2.St} {H : Hp} {Q : VK} (hsub : ∀ i ∈ p.slots, i ∈ vs) (h : liftE G W (dLc ti p tt te vs) σ H Q) :
    tLc (liftI G W ti) (gPat K p) (liftT G W0 tt) (fun σ H Q => liftE G W0 te σ H fun v H1 => Fits H1 → Q v H1) vs σ H Q := by
  obtain ⟨ow, s, Qd, Ed, E, t, hQ, hE⟩ := h
  refine ⟨ow, s, _, Ed, E, t, fun items s1 q1 J H1 ow1 e1 E1 Y => ?_, hE⟩
  intro D hD
  refine ⟨fun i m H2 => ∃ ow2 s2 acc accV, Ext ow1 H1 ow2 H2 ∧ ER G ow2 H2 σ s2 ∧ ow2 D = some .tmp ∧ H2 D = some (.lst accV) ∧ RepL G H2 ow2 acc accV ∧ acc.length ≤ i ∧ m = items.length - i ∧ i ≤ items.length ∧
    lcD p tt te vs s1 Qd (fun _ _ => False) (items.drop i) acc s2, ⟨items.length, DL.ow1 ow1 D (some .tmp), s1, [], [], Ext.new hD, E1.ext_new hD rfl, ow1_same, upd_same, RepL.nil, Nat.le_refl _, rfl, Nat.zero_le _, q1⟩, ?_⟩
  rintro i m H2 ⟨ow2, s2, acc, accV, e2, E2, oD, hD2, rA, hacc, rfl, hle, q2⟩
  cases hd : items.drop i with
  | nil =>
    have hi : i = items.length := by
      have := List.drop_eq_nil_iff.mp hd
      omega
    rw [hd] at q2
    rw [hi]
    exact .inl ⟨Y.stop _ _ e2, hQ _ _ q2 _ _ _ (e1.trans e2) E2 ⟨D, accV, rfl, e1.free hD, oD, hD2, rA⟩⟩
  | cons d r =>
    obtain ⟨g1, g2⟩ := drop_get hd
    have hlt : i < items.length := (List.getElem?_eq_some_iff.mp g1).1
    rw [hd] at q2
    obtain ⟨hgo, hy⟩ := Y.go _ _ i d e2 g1
    refine .inr ⟨hgo, fun H3 => ∃ ow3 s3 acc accV, Ext ow1 H1 ow3 H3 ∧ ER G ow3 H3 σ s3 ∧ ow3 D = some .tmp ∧ H3 D = some (.lst accV) ∧ RepL G H3 ow3 acc accV ∧ acc.length ≤ i + 1 ∧ lcD p tt te vs s1 Qd (fun _ _ => False) r acc s3,
      fun H3 ⟨ow3, s3, acc, accV, z1, z2, z3, z4, z5, z6, z7⟩ => ⟨items.length - (i + 1), by omega, ow3, s3, acc, accV, z1, z2, z3, z4, z5, z6, rfl, hlt, by rw [g2]; exact z7⟩, fun x H3 hyx => ?_⟩
    obtain ⟨ow3, e3, f3, R3⟩ := hy x H3 hyx
    obtain ⟨s3, hs3, q3⟩ := bindO_some q2
    refine pat_ok (f3 _ _ (E2.wipe vs)) R3 hs3 fun σ4 ⟨us, hσ⟩ E4 => ?_
    have hw : L2.wipe σ4 vs = L2.wipe σ vs := by rw [hσ, wipe_setV hsub, wipe_wipe vs vs σ fun _ z => z]
    have hw' : L2.wipe σ4 vs = L2.wipe (L2.wipe σ vs) vs := by rw [hσ, wipe_setV hsub]
    refine ⟨hw.trans (by rfl), ?_⟩
    obtain ⟨oD3, hD3⟩ := e3.of_tmp hD2 oD
    refine ⟨ow3, s3, _, _, E4, q3, fun b s5 q5 H5 ow5 e5 E5 => ?_, fun _ _ z => z.elim⟩
    obtain ⟨oD5, hD5⟩ := e5.of_tmp hD3 oD3
    have e25 := (e2.trans e3).trans e5
    cases b with
    | false =>
      rw [if_neg Bool.false_ne_true]
      exact ⟨ow5, _, acc, accV, e25, E1.back e25 E5 hw, oD5, hD5, RepL.ext (e3.trans e5) acc accV rA, Nat.le_succ_of_le hacc, q5⟩
    | true =>
      rw [if_pos rfl]
      refine ⟨ow5, s5, _, _, E5, q5, fun z s6 q6 y H6 ow6 e6 E6 R6 => ?_, fun _ _ z => z.elim⟩
      obtain ⟨⟨yd, s7⟩, hset, q7⟩ := bindO_some q6
      obtain ⟨ow7, e7, E7, R7, fr⟩ := settle_ok E6 e6 R6 hset
      obtain ⟨oD7, hD7⟩ := e7.of_tmp hD5 oD5
      intro ft
      have rA7 := RepL.ext ((e3.trans e5).trans e7) acc accV rA
      have hlen : accV.length = acc.length := rA.length
      have hsz := Y.size
      refine ⟨accV, hD7, by omega, ow7, _, acc ++ [yd], accV ++ [y], ((e25.trans e7).upd_new hD), ((E1.back (e25.trans e7) E7 hw).upd_tmp oD7), oD7, upd_same, ?_, by rw [List.length_append]; simpa using hacc, q7⟩
      have off : Off .tmp ow7 H6 (upd H6 D (.lst (accV ++ [y]))) := Off.upd rfl oD7
      exact RepL.off off _ _ (rA7.append (RepL.cons R7 RepL.nil))
section
variable {G : GT} {W : WX} {X : Cx} {tg iter elt c : Expr} {ti : DI} {p : Pat} {te : DE} {tt : DT} {ifs : List Expr} {scope : Scope} {own : List (Str × Nat)} {pos : Pos}
theorem PTs.wk {t t' : TT} (h : PTs X ifs t) (w : ∀ σ H Q, t' σ H Q → t σ H Q) : PTs X ifs t' := ⟨fun pins s σ H Q I q => h.run pins s σ H Q I (w σ H Q q)⟩
theorem pdts_nil : PDTs G X W [] dYes := ⟨PTs.wk pts_nil fun σ H Q h => by
  obtain ⟨ow, s, Qd, Ed, E, t, hQ, hE⟩ := h
  exact hQ _ _ t H ow (Ext.refl _ _) E⟩
theorem pdts_one (h : PDT G X W c tt) : PDTs G X W [c] tt := ⟨pts_one h.pt⟩
theorem PE.fitK {e : Expr} {t : TE} (h : PE X e t) : PE X e (fun σ H Q => t σ H fun v H1 => Fits H1 → Q v H1) :=
  ⟨fun pins s σ H Q I q => thn (h.run pins s σ H _ I q) fun u s1 ⟨v, H1, I1, r1, q1⟩ => ⟨v, H1, I1, r1, q1 (fits_of I1)⟩⟩
theorem pd_lc (own : List (Str × Nat)) (hc : X.calm = true) (hN : X.N.Nodup) (hi : PDI G X W tg iter ti) (ok : BlkOk X.N X.env.scope scope own)
    (hg : ∀ (s : Shared) (H : Hp) (C : Addr) (cl : List (Str × Addr)) (fp : List Addr), PPat (X.blk s H scope (compEnvC scope cl C X.env) fp) tg p)
    (ht : ∀ (s : Shared) (H : Hp) (C : Addr) (cl : List (Str × Addr)) (fp : List Addr), PDTs G (X.blk s H scope (compEnvC scope cl C X.env) fp) W0 ifs tt)
    (he : ∀ (s : Shared) (H : Hp) (C : Addr) (cl : List (Str × Addr)) (fp : List Addr), PD G (X.blk s H scope (compEnvC scope cl C X.env) fp) W0 elt te)
    (hs : ∀ x, foldedSetIterable iter X.env x = pure x := by intro _; rfl) (hsub : ∀ i ∈ p.slots, i ∈ own.map (·.2) := by decide) :
    PD G X W (.ListComp elt [⟨tg, iter, ifs, 0⟩] scope pos) (dLc ti p tt te (own.map (·.2))) :=
  ⟨PE.wk (pe_lc hc hN hi.pi ok (fun s H C cl fp => (hg s H C cl fp).pg) (fun s H C cl fp => (ht s H C cl fp).pt) (fun s H C cl fp => PE.fitK (he s H C cl fp).pe) hs) fun σ H Q _ h => lc_main hsub h⟩
end
end DL
namespace DL
open PySem PySem.Spec PyProof.Rows L2

/-! ### methods of a list that a name owns -/
def olAt (s : Sd) : Rv → Option (Nat × List D)
  | .al i => match nthO s.e i with
    | some (.ol l) => some (i, l)
    | _ => none
  | _ => none
theorem olAt_some {s : Sd} {r : Rv} {i : Nat} {l : List D} (h : olAt s r = some (i, l)) : r = .al i ∧ nthO s.e i = some (.ol l) := by
  cases r with
  | al j =>
    cases q : nthO s.e j with
    | none => simp only [olAt, q] at h; cases h
    | some sv =>
      cases sv with
      | ol m => simp only [olAt, q] at h; cases h; exact ⟨rfl, q⟩
      | _ => simp only [olAt, q] at h; cases h
  | _ => cases h
/-- xs.append(e) -/
def dAppend (to te : DE) : DE := fun s Q E => to s (fun r0 s0 => bindO (olAt s0 r0) fun _ => te s0 (fun r1 s1 => bindO (settle r1 s1) fun p => bindO (olAt p.2 r0) fun q => guardB (fitN (q.2.length + 1)) (Q (.v .non) (p.2.put q.1 (.ol (q.2 ++ [p.1]))))) E) E
/-- xs.extend(ys) -/
def dExtend (to te : DE) : DE := fun s Q E => to s (fun r0 s0 => bindO (olAt s0 r0) fun _ => te s0 (fun r1 s1 => bindO (settle r1 s1) fun p => bindO (olAt p.2 r0) fun q => match p.1 with
  | .lst m => guardB (fitN (q.2.length + m.length)) (Q (.v .non) (p.2.put q.1 (.ol (q.2 ++ m))))
  | _ => False) E) E
/-- xs.insert(i, e) -/
def dInsert (to ti te : DE) : DE := fun s Q E => to s (fun r0 s0 => bindO (olAt s0 r0) fun _ => ti s0 (fun r1 s1 => bindO (settle r1 s1) fun p => te p.2 (fun r2 s2 => bindO (settle r2 s2) fun p2 => bindO (olAt p2.2 r0) fun q => match p.1 with
  | .int k => guardB (fitN (q.2.length + 1) && decide (0 ≤ k) && decide (k < 2 ^ 63)) (Q (.v .non) (p2.2.put q.1 (.ol (q.2.take k.toNat ++ [p2.1] ++ q.2.drop k.toNat))))
  | _ => False) E) E) E
/-- xs.pop() -/
def dPop (to : DE) : DE := fun s Q E => to s (fun r0 s0 => bindO (olAt s0 r0) fun q => bindO (q.2[q.2.length - 1]?) fun d => Q (.v d) (s0.put q.1 (.ol q.2.dropLast))) E
section
variable {G : GT} {W : WX} {X : Cx} {o e e2 : Expr} {to te ti : DE} {apos cpos : Pos} {ow ow' ow0 : OW} {H H' H0 : Hp} {σ : L2.St} {s s' : Sd}
theorem olAt_ok (E : ER G ow H σ s) {r : Rv} {v : V} (R : RepR G ow H H0 σ r v) {i : Nat} {l : List D} (h : olAt s r = some (i, l)) : ∃ a xs, v = .ref a ∧ σ[i]? = some (some (.ref a)) ∧ ow a = some (.slot i) ∧ H a = some (.lst xs) ∧ RepL G H ow l xs := by
  obtain ⟨rfl, q⟩ := olAt_some h
  obtain ⟨v', h1, a, xs, h2, h3, h4, h5⟩ := E.get q
  rw [show σ[i]? = some (some v) from R] at h1
  cases h1
  subst h2
  exact ⟨a, xs, rfl, R, h3, h4, h5⟩
/-- a slot's own list is exchanged -/
theorem ol_put (E : ER G ow H σ s) {a : Addr} {i : Nat} (hv : σ[i]? = some (some (.ref a))) (ho : ow a = some (.slot i)) {l : List D} {xs : List V} (r : RepL G H ow l xs) : ER G ow (upd H a (.lst xs)) σ (s.put i (.ol l)) :=
  E.upd_slot ho hv ⟨a, xs, rfl, ho, upd_same, RepL.off (Off.upd rfl ho) l xs r⟩
theorem RepL.dropLast : ∀ {l : List D} {xs : List V}, RepL G H ow l xs → RepL G H ow l.dropLast xs.dropLast := by
  intro l xs h
  rw [List.dropLast_eq_take, List.dropLast_eq_take, h.length]
  exact h.take _
theorem pd_append (ho : PD G X W o to) (ha : PD G X W e te) (hbase : attributeBase o "append" X.env (eval o X.env) = eval o X.env := by rfl) (hs : starEach [e] X.env = (false, eval e X.env) :: starEach [] X.env := by rfl)
    (hfew : ((backTo cpos (starEach [e] X.env)).all (fun x => !x.1) && (backToKw cpos (keywordEach [] X.env)).all (fun x => x.1.isSome) && decide ([e].length + ([] : List Keyword).length + (if ([] : List Keyword).isEmpty then 0 else 1) < 30)) = true := by rfl)
    (hline : (apos.endLine == cpos.line) = true := by rfl) (hplain : (backTo cpos (starEach [] X.env)).any (·.1) = false := by rfl) : PD G X W (.Call (.Attribute o "append" apos) [e] [] cpos) (dAppend to te) :=
  ⟨PE.wk (pe_bm PySem.F.plainAttrs_list PySem.F.slot_list_append PySem.F.type_list_append mt_append ho.pe (pa_cons ha.pe pa_nil hs) hbase hfew hline hs hplain) fun σ H Q _ h => by
    obtain ⟨ow, s, Qd, Ed, E, t, hQ, hE⟩ := h
    refine ⟨ow, s, _, Ed, E, t, fun r0 s0 q0 v0 H1 ow1 e1 E1 R1 => ?_, hE⟩
    obtain ⟨⟨i, l⟩, h0, q0⟩ := bindO_some q0
    obtain ⟨a, xs, rfl, hv, ho, hl, r⟩ := olAt_ok E1 R1 h0
    refine ⟨.inl ⟨rfl, xs, sqL_of hl⟩, ow1, s0, _, Ed, E1, q0, fun r1 s1 q1 v1 H2 ow2 e2 E2 R2 => ?_, hE.from e1⟩
    obtain ⟨⟨d, s2⟩, hs2, q1⟩ := bindO_some q1
    obtain ⟨ow3, e3, E3, R3, _⟩ := settle_ok E2 e2 R2 hs2
    obtain ⟨⟨j, m⟩, h3, q1⟩ := bindO_some q1
    obtain ⟨g, q1⟩ := guardB_and q1
    obtain ⟨rfl, h0'⟩ := olAt_some h0
    obtain ⟨b, ys, e4, hv3, ho3, hl3, r3⟩ := olAt_ok (H0 := H1) E3 (show RepR G ow3 H2 H1 σ (.al i) (.ref a) from hv) h3
    cases e4
    obtain ⟨e5, _⟩ := olAt_some h3
    cases e5
    have r4 : RepL G H2 ow3 (m ++ [d]) (ys ++ [v1]) := r3.append (RepL.cons R3 RepL.nil)
    refine ⟨a, ys, v1, rfl, rfl, hl3, by rw [r3.length]; exact fitN_le g, ?_⟩
    exact hQ _ _ q1 _ _ _ ((e1.trans e3).upd_slot ho3) (ol_put E3 hv3 ho3 r4) (by rw [RepR, Rep])⟩
theorem pd_extend (ho : PD G X W o to) (ha : PD G X W e te) (hbase : attributeBase o "extend" X.env (eval o X.env) = eval o X.env := by rfl) (hs : starEach [e] X.env = (false, eval e X.env) :: starEach [] X.env := by rfl)
    (hfew : ((backTo cpos (starEach [e] X.env)).all (fun x => !x.1) && (backToKw cpos (keywordEach [] X.env)).all (fun x => x.1.isSome) && decide ([e].length + ([] : List Keyword).length + (if ([] : List Keyword).isEmpty then 0 else 1) < 30)) = true := by rfl)
    (hline : (apos.endLine == cpos.line) = true := by rfl) (hplain : (backTo cpos (starEach [] X.env)).any (·.1) = false := by rfl) : PD G X W (.Call (.Attribute o "extend" apos) [e] [] cpos) (dExtend to te) :=
  ⟨PE.wk (pe_bm PySem.F.plainAttrs_list PySem.F.slot_list_extend PySem.F.type_list_extend mt_extend ho.pe (pa_cons ha.pe pa_nil hs) hbase hfew hline hs hplain) fun σ H Q _ h => by
    obtain ⟨ow, s, Qd, Ed, E, t, hQ, hE⟩ := h
    refine ⟨ow, s, _, Ed, E, t, fun r0 s0 q0 v0 H1 ow1 e1 E1 R1 => ?_, hE⟩
    obtain ⟨⟨i, l⟩, h0, q0⟩ := bindO_some q0
    obtain ⟨a, xs, rfl, hv, ho, hl, r⟩ := olAt_ok E1 R1 h0
    refine ⟨.inl ⟨rfl, xs, sqL_of hl⟩, ow1, s0, _, Ed, E1, q0, fun r1 s1 q1 v1 H2 ow2 e2 E2 R2 => ?_, hE.from e1⟩
    obtain ⟨⟨d, s2⟩, hs2, q1⟩ := bindO_some q1
    obtain ⟨ow3, e3, E3, R3, _⟩ := settle_ok E2 e2 R2 hs2
    obtain ⟨⟨j, m⟩, h3, q1⟩ := bindO_some q1
    obtain ⟨rfl, h0'⟩ := olAt_some h0
    obtain ⟨b, ys, e4, hv3, ho3, hl3, r3⟩ := olAt_ok (H0 := H1) E3 (show RepR G ow3 H2 H1 σ (.al i) (.ref a) from hv) h3
    cases e4
    obtain ⟨e5, _⟩ := olAt_some h3
    cases e5
    cases d with
    | lst k =>
      obtain ⟨g, q1⟩ := guardB_and q1
      rw [Rep] at R3
      obtain ⟨c, zs, rfl, ⟨_, hc⟩, r4⟩ := R3
      refine ⟨a, c, ys, zs, rfl, rfl, hl3, hc, by rw [r3.length, r4.length]; exact fitN_le g, ?_⟩
      exact hQ _ _ q1 _ _ _ ((e1.trans e3).upd_slot ho3) (ol_put E3 hv3 ho3 (r3.append r4)) (by rw [RepR, Rep])
    | _ => exact q1.elim⟩
theorem pd_pop (ho : PD G X W o to) (hbase : attributeBase o "pop" X.env (eval o X.env) = eval o X.env := by rfl) (hline : (apos.endLine == cpos.line) = true := by rfl) : PD G X W (.Call (.Attribute o "pop" apos) [] [] cpos) (dPop to) :=
  ⟨PE.wk (pe_bm0 PySem.F.plainAttrs_list PySem.F.slot_list_pop PySem.F.type_list_pop mt_pop ho.pe hbase hline) fun σ H Q _ h => by
    obtain ⟨ow, s, Qd, Ed, E, t, hQ, hE⟩ := h
    refine ⟨ow, s, _, Ed, E, t, fun r0 s0 q0 v0 H1 ow1 e1 E1 R1 => ?_, hE⟩
    obtain ⟨⟨i, l⟩, h0, q0⟩ := bindO_some q0
    obtain ⟨d, hd, q0⟩ := bindO_some q0
    obtain ⟨a, xs, rfl, hv, ho, hl, r⟩ := olAt_ok E1 R1 h0
    obtain ⟨x, hx, rx⟩ := r.get hd
    refine ⟨.inl ⟨rfl, xs, sqL_of hl⟩, a, xs, x, rfl, rfl, hl, by rw [r.length]; exact hx, ?_⟩
    exact hQ _ _ q0 _ _ _ (e1.upd_slot ho) (ol_put E1 hv ho r.dropLast) (Rep.off (Off.upd rfl ho) d x rx)⟩
theorem pd_insert (ho : PD G X W o to) (hi : PD G X W e ti) (ha : PD G X W e2 te) (hbase : attributeBase o "insert" X.env (eval o X.env) = eval o X.env := by rfl) (hs : starEach [e, e2] X.env = (false, eval e X.env) :: starEach [e2] X.env := by rfl) (hs2 : starEach [e2] X.env = (false, eval e2 X.env) :: starEach [] X.env := by rfl)
    (hfew : ((backTo cpos (starEach [e, e2] X.env)).all (fun x => !x.1) && (backToKw cpos (keywordEach [] X.env)).all (fun x => x.1.isSome) && decide ([e, e2].length + ([] : List Keyword).length + (if ([] : List Keyword).isEmpty then 0 else 1) < 30)) = true := by rfl)
    (hline : (apos.endLine == cpos.line) = true := by rfl) (hplain : (backTo cpos (starEach [e2] X.env)).any (·.1) = false := by rfl) : PD G X W (.Call (.Attribute o "insert" apos) [e, e2] [] cpos) (dInsert to ti te) :=
  ⟨PE.wk (pe_bm PySem.F.plainAttrs_list PySem.F.slot_list_insert PySem.F.type_list_insert mt_insert ho.pe (pa_cons hi.pe (pa_cons ha.pe pa_nil hs2) hs) hbase hfew hline hs hplain) fun σ H Q _ h => by
    obtain ⟨ow, s, Qd, Ed, E, t, hQ, hE⟩ := h
    refine ⟨ow, s, _, Ed, E, t, fun r0 s0 q0 v0 H1 ow1 e1 E1 R1 => ?_, hE⟩
    obtain ⟨⟨i, l⟩, h0, q0⟩ := bindO_some q0
    obtain ⟨a, xs, rfl, hv, ho, hl, r⟩ := olAt_ok E1 R1 h0
    refine ⟨.inl ⟨rfl, xs, sqL_of hl⟩, ow1, s0, _, Ed, E1, q0, fun r1 s1 q1 v1 H2 ow2 e2 E2 R2 => ?_, hE.from e1⟩
    obtain ⟨⟨d, s2⟩, hs2, q1⟩ := bindO_some q1
    obtain ⟨ow3, e3, E3, R3, _⟩ := settle_ok E2 e2 R2 hs2
    refine ⟨ow3, s2, _, Ed, E3, q1, fun r2 s3 q2 v2 H4 ow4 e4 E4 R4 => ?_, hE.from (e1.trans e3)⟩
    obtain ⟨⟨d2, s5⟩, hs5, q2⟩ := bindO_some q2
    obtain ⟨ow5, e5, E5, R5, _⟩ := settle_ok E4 e4 R4 hs5
    obtain ⟨⟨j, m⟩, h3, q2⟩ := bindO_some q2
    obtain ⟨rfl, h0'⟩ := olAt_some h0
    obtain ⟨b, ys, e6, hv3, ho3, hl3, r3⟩ := olAt_ok (H0 := H1) E5 (show RepR G ow5 H4 H1 σ (.al i) (.ref a) from hv) h3
    cases e6
    obtain ⟨e7, _⟩ := olAt_some h3
    cases e7
    cases d with
    | int k =>
      obtain ⟨g, q2⟩ := guardB_and q2
      simp only [Bool.and_eq_true, decide_eq_true_eq] at g
      obtain ⟨⟨g1, g2⟩, g3⟩ := g
      rw [Rep] at R3
      subst R3
      have r4 : RepL G H4 ow5 (m.take k.toNat ++ [d2] ++ m.drop k.toNat) (ys.take k.toNat ++ [v2] ++ ys.drop k.toNat) := ((r3.take _).append (RepL.cons R5 RepL.nil)).append (r3.drop _)
      refine ⟨a, ys, k, v2, rfl, rfl, hl3, by rw [r3.length]; exact fitN_le g1, g2, g3, ?_⟩
      exact hQ _ _ q2 _ _ _ (((e1.trans e3).trans e5).upd_slot ho3) (ol_put E5 hv3 ho3 r4) (by rw [RepR, Rep])
    | _ => exact q2.elim⟩
end

/-! ### o[k] = v, o a list or a dict that a name owns -/
def setAtD (sv : Sv) (k v : D) : Option Sv := match sv with
  | .ol l => match k with
    | .int i => (ixN l.length i).map fun j => .ol (l.set j v)
    | _ => none
  | .od tb ks vs => ifB (keyOkD tb k && fitN (ks.length + 1)) (some (.od tb (putL ks vs k v).1 (putL ks vs k v).2))
  | _ => none
def alAt : Rv → Option Nat
  | .al i => some i
  | _ => none
def dSetIx (to ti te : DE) : DS := fun D s => te s (fun r1 s1 => bindO (settle r1 s1) fun p => to p.2 (fun r0 s0 => bindO (alAt r0) fun i => ti s0 (fun r2 s2 => bindO (settle r2 s2) fun k => bindO (nthO k.2.e i) fun sv => bindO (setAtD sv k.1 p.1) fun sv' => D.nx (k.2.put i sv')) D.ex) D.ex) D.ex
def rSetA : TSet := fun o i v H Q => rSetL o i v H Q ∨ rSetD o i v H Q
section
variable {G : GT} {W : WX} {X : Cx} {o i e : Expr} {to te ti : DE} {pos tpos : Pos} {ow ow' ow0 : OW} {H H' H0 : Hp} {σ : L2.St} {s s' : Sd}
theorem set_any (hu : X.A.units + 1 < cLine) : PSet X rSetA := by
  intro pins s σ H o i v ov iv u Q I ro ri rv q
  rcases q with q | q
  · exact set_list pins s σ H o i v ov iv u Q I ro ri rv q
  · exact set_dict hu pins s σ H o i v ov iv u Q I ro ri rv q
theorem RepL.set {d : DL.D} {v : V} (r : Rep G H ow d v) : ∀ (m : Nat) (l : List DL.D) (xs : List V), RepL G H ow l xs → RepL G H ow (l.set m d) (xs.set m v)
  | _, [], xs, h => by rw [RepL] at h; subst h; exact RepL.nil
  | m, y :: l, xs, h => by
    rw [RepL] at h
    obtain ⟨x, q, rfl, z1, z2⟩ := h
    cases m with
    | zero => exact RepL.cons r z2
    | succ m => exact RepL.cons z1 (RepL.set r m l q z2)
theorem has_gen {κ : Type} [DecidableEq κ] (kd : κ → DL.D) (hk : ∀ a b, eqD (kd a) (kd b) = decide (a = b)) (k : κ) : ∀ (l : List (κ × V)), hasL (l.map fun p => kd p.1) (kd k) = l.any fun kv => decide (kv.1 = k)
  | [] => rfl
  | p :: l => by
    simp only [List.map_cons, hasL, List.any_cons]
    rw [hk, has_gen kd hk k l]
    by_cases z : p.1 = k
    · rw [decide_eq_true z]; rfl
    · rw [decide_eq_false z]; rfl
theorem repl_gen {κ : Type} [DecidableEq κ] (kd : κ → DL.D) (hk : ∀ a b, eqD (kd a) (kd b) = decide (a = b)) (k : κ) (d : DL.D) (v : V) (r : Rep G H ow d v) : ∀ (l : List (κ × V)) (vs : List DL.D), RepL G H ow vs (l.map (·.2)) →
    RepL G H ow (replL (l.map fun p => kd p.1) vs (kd k) d) ((l.map fun kv => if kv.1 = k then (kv.1, v) else kv).map (·.2))
  | [], vs, h => by cases vs <;> exact h
  | p :: l, vs, h => by
    cases vs with
    | nil => rw [RepL] at h; cases h
    | cons x vs =>
      rw [RepL] at h
      obtain ⟨y, q, e, q1, q2⟩ := h
      rw [List.map_cons] at e
      obtain ⟨rfl, rfl⟩ := List.cons.inj e
      have ih := repl_gen kd hk k d v r l vs q2
      simp only [List.map_cons, replL]
      rw [hk]
      by_cases z : p.1 = k
      · rw [decide_eq_true z, if_pos z]; exact RepL.cons r ih
      · rw [decide_eq_false z, if_neg z]; exact RepL.cons q1 ih
theorem put_gen {κ : Type} [DecidableEq κ] (kd : κ → DL.D) (hk : ∀ a b, eqD (kd a) (kd b) = decide (a = b)) (k : κ) (d : DL.D) (v : V) (l : List (κ × V)) (vs : List DL.D) (rl : RepL G H ow vs (l.map (·.2))) (r : Rep G H ow d v) :
    (putL (l.map fun p => kd p.1) vs (kd k) d).1 = (putK l k v).map (fun p => kd p.1) ∧ RepL G H ow (putL (l.map fun p => kd p.1) vs (kd k) d).2 ((putK l k v).map (·.2)) := by
  unfold putL putK
  rw [has_gen kd hk k l]
  by_cases w : (l.any fun kv => decide (kv.1 = k)) = true
  · rw [w, if_pos rfl]
    refine ⟨?_, repl_gen kd hk k d v r l vs rl⟩
    rw [List.map_map]
    refine List.map_congr_left fun u _ => ?_
    show kd u.1 = kd (if u.1 = k then (u.1, v) else u).1
    by_cases z : u.1 = k
    · rw [if_pos z]
    · rw [if_neg z]
  · rw [if_neg w, Bool.eq_false_iff.mpr w]
    exact ⟨by rw [List.map_append]; rfl, by rw [List.map_append]; exact rl.append (RepL.cons r RepL.nil)⟩
theorem putD_ok {tb : Bool} {ks vs : List DL.D} {a : Addr} {xs : List V} (t : DicAt H a tb ks xs) (r : RepL G H ow vs xs) {kd d : DL.D} {y v : V} (hy : Rep G H ow kd y) (hk : keyOkD tb kd = true) (hz : fitN (ks.length + 1) = true) (rv : Rep G H ow d v) :
    ∃ o' zs, DPut H a y v (upd H a o') ∧ DicAt (upd H a o') a tb (putL ks vs kd d).1 zs ∧ RepL G H ow (putL ks vs kd d).2 zs := by
  have hf := fitN_le hz
  cases tb with
  | false =>
    obtain ⟨l, h, rfl, rfl⟩ := t
    obtain ⟨k, rfl⟩ := leaf_key hk
    have e := keyV_of hy
    subst e
    obtain ⟨p1, p2⟩ := put_gen keyD eqD_key k d v l vs r rv
    rw [List.length_map] at hf
    exact ⟨_, _, DPut.k h (by omega), ⟨_, upd_same, p1, rfl⟩, p2⟩
  | true =>
    obtain ⟨l, h, rfl, rfl⟩ := t
    cases kd with
    | tup m =>
      obtain ⟨k, rfl⟩ := leaf_keys hk
      rw [Rep] at hy
      obtain ⟨b, zs, rfl, t2, r2⟩ := hy
      have z := keysV_of r2
      subst z
      obtain ⟨p1, p2⟩ := put_gen (fun k => DL.D.tup (k.map keyD)) eqD_tkey k d v l vs r rv
      rw [List.length_map] at hf
      exact ⟨_, _, DPut.t h t2.2 (by omega), ⟨_, upd_same, p1, rfl⟩, p2⟩
    | _ => cases hk
theorem pds_setIx (hu : X.A.units + 1 < cLine) (he : PD G X W e te) (ho : PD G X W o to) (hi : PD G X W i ti)
    (ha : ∀ v, assign (.Subscript o i tpos) X.env v = (do
      let ov ← holding [v] (eval o X.env)
      let iv ← holding [v, ov] (eval i X.env)
      standAt tpos
      holding [v, ov, iv] (setItem ov iv v)
      release [v, ov, iv] []) := by intro _; rfl) (hs : swapsWithSole [.Subscript o i tpos] e pos.line X.env = pure false := by rfl) (hw : swappedStores [.Subscript o i tpos] e X.env = pure none := by rfl)
    (h1 : (assignEach [.Subscript o i tpos] X.env).map (·.2) = [assign (.Subscript o i tpos) X.env] := by rfl) : PDS G X W (.Assign [.Subscript o i tpos] e pos) (dSetIx to ti te) :=
  ⟨PS.wk (ps_asg he.pe (pg_sub ho.pe hi.pe (set_any hu) ha) hs hw h1) fun D σ H _ h => by
    obtain ⟨ow, s, Dd, E, t, L⟩ := h
    refine ⟨ow, s, _, _, E, t, fun r s1 q1 v H1 ow1 e1 E1 R1 => ?_, L.exW σ⟩
    obtain ⟨⟨d, s2⟩, hs2, q1⟩ := bindO_some q1
    obtain ⟨ow2, e2, E2, R2, _⟩ := settle_ok E1 e1 R1 hs2
    refine ⟨ow2, s2, _, _, E2, q1, fun r0 s3 q3 vo H3 ow3 e3 E3 R3 => ?_, (L.from e2).exW σ⟩
    obtain ⟨j, hj, q3⟩ := bindO_some q3
    have e23 := e2.trans e3
    refine ⟨ow3, s3, _, _, E3, q3, fun r4 s4 q4 vi H4 ow4 e4 E4 R4 => ?_, (L.from e23).exW σ⟩
    obtain ⟨⟨kd, s5⟩, hs5, q4⟩ := bindO_some q4
    obtain ⟨ow5, e5, E5, R5, _⟩ := settle_ok E4 e4 R4 hs5
    obtain ⟨sv, hsv, q4⟩ := bindO_some q4
    obtain ⟨sv', hsv', q4⟩ := bindO_some q4
    have ej : r0 = .al j := by cases r0 <;> first | (cases hj; rfl) | cases hj
    subst ej
    have R2' := Rep.ext (e3.trans e5) d v R2
    obtain ⟨w, g1, g2⟩ := E5.get hsv
    rw [show σ[j]? = some (some vo) from R3] at g1
    cases g1
    have eAll := e23.trans e5
    cases sv with
    | v _ => cases hsv'
    | ol l =>
      obtain ⟨a, xs, rfl, o1, o2, o3⟩ := g2
      cases kd with
      | int k =>
        obtain ⟨m, hm, rfl⟩ := Option.map_eq_some_iff.mp hsv'
        rw [Rep] at R5
        subst R5
        have rl : RepL G H4 ow5 (l.set m d) (xs.set m v) := RepL.set R2' m l xs o3
        refine .inl ⟨a, xs, k, m, rfl, rfl, o2, by rw [o3.length]; exact hm, ?_⟩
        exact L.nx _ q4 _ _ _ (eAll.upd_slot o1) (ol_put E5 R3 o1 rl)
      | _ => cases hsv'
    | od tb ks vs =>
      obtain ⟨a, xs, rfl, o1, o2, o3⟩ := g2
      obtain ⟨g, hz⟩ := ifB_some hsv'
      cases hz
      obtain ⟨k1, k2⟩ := Bool.and_eq_true_iff.mp g
      obtain ⟨o', zs, z1, z2, z3⟩ := putD_ok o2 o3 R5 k1 k2 R2'
      refine .inr ⟨a, _, rfl, z1, ?_⟩
      exact L.nx _ q4 _ _ _ (eAll.upd_slot o1) (E5.upd_slot o1 R3 ⟨a, zs, rfl, o1, z2, RepL.off (Off.upd rfl o1) _ _ z3⟩)⟩
end
end DL
namespace DL
open PySem PySem.Spec PyProof.Rows L2

/-! ### owners told anew at a call and behind it -/
def Ow.fixed : Ow → Bool
  | .obj _ => true
  | .dr => true
  | .drl => true
  | .tab => true
  | _ => false
structure OM (ow ow' : OW) : Prop where
  non : ∀ b, ow b = none → ow' b = none
  to : ∀ b w, Ow.fixed w = true → ow b = some w → ow' b = some w
  fro : ∀ b w, Ow.fixed w = true → ow' b = some w → ow b = some w
section
variable {G : GT} {W : WX} {ow ow' owc : OW} {H H' H0 : Hp} {σ : L2.St} {s s' : Sd}
mutual
theorem Rep.om (m : OM ow ow') : ∀ (d : D) (v : V), Rep G H ow d v → Rep G H ow' d v
  | .non, _, h => by rw [Rep] at h ⊢; exact h
  | .bl _, _, h => by rw [Rep] at h ⊢; exact h
  | .int _, _, h => by rw [Rep] at h ⊢; exact h
  | .str _, _, h => by rw [Rep] at h ⊢; exact h
  | .tup ds, v, h => by
    rw [Rep] at h ⊢
    obtain ⟨b, xs, r, ⟨n, t⟩, q⟩ := h
    exact ⟨b, xs, r, ⟨m.non _ n, t⟩, RepL.om m ds xs q⟩
  | .lst ds, v, h => by
    rw [Rep] at h ⊢
    obtain ⟨b, xs, r, ⟨n, t⟩, q⟩ := h
    exact ⟨b, xs, r, ⟨m.non _ n, t⟩, RepL.om m ds xs q⟩
  | .dic tb ks vs, v, h => by
    rw [Rep] at h ⊢
    obtain ⟨b, xs, r, n, t, q⟩ := h
    exact ⟨b, xs, r, m.non _ n, t, RepL.om m vs xs q⟩
  | .exc k d, v, h => by
    rw [Rep] at h ⊢
    obtain ⟨b, x, r, n, t, q⟩ := h
    refine ⟨b, x, r, m.non _ n, ?_, Rep.om m d x q⟩
    rcases t with ⟨dx, z, h1, h2, h3⟩ | t
    · exact .inl ⟨dx, z, h1, m.non _ h2, h3⟩
    · exact .inr t
  | .obj n, v, h => by
    rw [Rep] at h ⊢
    obtain ⟨b, r, n', i⟩ := h
    exact ⟨b, r, m.to _ _ rfl n', i⟩
  | .dr, v, h => by
    rw [Rep] at h ⊢
    obtain ⟨b, r, n', i⟩ := h
    exact ⟨b, r, m.to _ _ rfl n', i⟩
  | .fn n, v, h => by rw [Rep] at h ⊢; exact h
  | .clo f c q ds vs, v, h => by
    rw [Rep] at h ⊢
    obtain ⟨r, n, t, p⟩ := h
    exact ⟨r, m.non _ n, t, RepL.om m ds vs p⟩
  | .scr n, v, h => by
    rw [Rep] at h ⊢
    obtain ⟨b, r, i⟩ := h
    exact ⟨b, r, i.imp (fun z => ⟨m.non _ z.1, z.2⟩) id⟩
  | .lds ds, v, h => by
    rw [Rep] at h ⊢
    obtain ⟨b, xs, r, ⟨n, t⟩, q⟩ := h
    exact ⟨b, xs, r, ⟨m.non _ n, t⟩, RepL.om m ds xs q⟩
theorem RepL.om (m : OM ow ow') : ∀ (ds : List D) (xs : List V), RepL G H ow ds xs → RepL G H ow' ds xs
  | [], _, h => by rw [RepL] at h ⊢; exact h
  | d :: ds, xs, h => by
    rw [RepL] at h ⊢
    obtain ⟨x, r, e1, q1, q2⟩ := h
    exact ⟨x, r, e1, Rep.om m d x q1, RepL.om m ds r q2⟩
end
theorem GR.om (m : OM ow ow') {g : Gst} (h : GR G ow H g) : GR G ow' H g where
  dr := fun a e i => by
    obtain ⟨z, t, b, gs, h1, h2, h3⟩ := h.dr a (m.fro _ _ rfl e) i
    exact ⟨z, t, b, gs, h1, m.to _ _ rfl h2, h3⟩
  ob := fun a n e i => by
    obtain ⟨ob, dx, fs, h1, h2, h3⟩ := h.ob a n (m.fro _ _ rfl e) i
    exact ⟨ob, dx, fs, h1, h2, h3.imp fun d v q => Rep.om m d v q⟩
  inj := fun a b n e1 e2 i1 i2 => h.inj a b n (m.fro _ _ rfl e1) (m.fro _ _ rfl e2) i1 i2
  tab := fun p hp => by
    obtain ⟨h1, h2⟩ := h.tab p hp
    exact ⟨m.to _ _ rfl h1, h2.imp rfl fun c n t => ⟨m.non _ n, t⟩⟩

/-- seen from a callee -/
def farO (ow : OW) : OW := fun b => match ow b with
  | some (.slot _) => some .far
  | some .tmp => some .far
  | some (.tmpk _) => some .far
  | o => o
theorem farO_om : OM ow (farO ow) where
  non := fun b e => by simp only [farO, e]
  to := fun b w f e => by cases w <;> first | (cases f; done) | (simp only [farO, e])
  fro := fun b w f e => by
    cases q : ow b with
    | none => simp only [farO, q] at e; cases e
    | some z =>
      cases z <;> simp only [farO, q] at e <;> first | exact e | (cases e; cases f; done)
theorem farO_loose {b : Addr} (h : Ow.loose (ow b) = false ∨ Ow.isSlot (ow b) = true) : Ow.loose (farO ow b) = false := by
  cases q : ow b with
  | none => simp only [farO, q]; rfl
  | some z => cases z <;> simp only [farO, q] <;> first | rfl | (rw [q] at h; rcases h with h | h <;> cases h)
theorem farO_slot {b : Addr} : Ow.isSlot (farO ow b) = false := by
  cases q : ow b with
  | none => simp only [farO, q]; rfl
  | some z => cases z <;> simp only [farO, q] <;> rfl
/-- back at the caller -/
def backO (ow : OW) (H : Hp) (owc : OW) : OW := fun b => match H b with
  | some _ => ow b
  | none => match owc b with
    | some (.slot _) => some .far
    | some (.tmpk _) => some .far
    | o => o
theorem backO_old {b : Addr} {o : HO} (h : H b = some o) : backO ow H owc b = ow b := by simp only [backO, h]
theorem backO_om (e : Ext (farO ow) H owc H') : OM owc (backO ow H owc) where
  non := fun b n => by
    cases q : H b with
    | none => simp only [backO, q, n]
    | some o =>
      rw [backO_old q]
      have z := e.own_keep q farO_slot
      rw [n] at z
      cases y : ow b with
      | none => rfl
      | some u => cases u <;> simp only [farO, y] at z <;> cases z
  to := fun b w f n => by
    cases q : H b with
    | none => cases w <;> first | (cases f; done) | simp only [backO, q, n]
    | some o =>
      rw [backO_old q]
      exact farO_om.fro b w f ((e.own_keep q farO_slot).symm.trans n)
  fro := fun b w f n => by
    cases q : H b with
    | none =>
      cases y : owc b with
      | none => simp only [backO, q, y] at n; cases n
      | some z => cases z <;> simp only [backO, q, y] at n <;> first | exact n | (cases n; cases f; done)
    | some o =>
      rw [backO_old q] at n
      exact (e.own_keep q farO_slot).trans (farO_om.to b w f n)
theorem backO_ext (e : Ext (farO ow) H owc H') : Ext ow H (backO ow H owc) H' where
  keep := fun b o h l => e.keep b o h (farO_loose (.inl l))
  there := e.there
  own := fun b o h => .inl (backO_old h)
theorem backO_er (e : Ext (farO ow) H owc H') (E : ER G ow H σ s) {g : Gst} (q : GR G owc H' g) : ER G (backO ow H owc) H' σ ⟨s.e, g⟩ where
  len := E.len
  sl := fun i sv h => by
    obtain ⟨v, h1, h2⟩ := E.sl i sv h
    refine ⟨v, h1, ?_⟩
    have e' := backO_ext e
    cases sv with
    | v d => exact Rep.ext e' d v h2
    | ol l =>
      obtain ⟨a, xs, r, o, t, p⟩ := h2
      exact ⟨a, xs, r, (backO_old t).trans o, e.keep _ _ t (farO_loose (.inr (by rw [o]; rfl))), RepL.ext e' l xs p⟩
    | od tb ks vs =>
      obtain ⟨a, xs, r, o, t, p⟩ := h2
      obtain ⟨u, hu⟩ := t.ex
      exact ⟨a, xs, r, (backO_old hu).trans o, t.same fun w hw => e.keep _ _ hw (farO_loose (.inr (by rw [o]; rfl))), RepL.ext e' vs xs p⟩
  gr := q.om (backO_om e)
theorem backO_repR (e : Ext (farO ow) H owc H') {r : Rv} {v : V} (h : RepR G owc H' H [] r v) : RepR G (backO ow H owc) H' H σ r v := by
  cases r with
  | v d => exact Rep.om (backO_om e) d v h
  | ol l =>
    obtain ⟨a, xs, r, n, o, t, q⟩ := h
    exact ⟨a, xs, r, n, by simp only [backO, n, o], t, RepL.om (backO_om e) l xs q⟩
  | od tb ks vs =>
    obtain ⟨a, xs, r, n, o, t, q⟩ := h
    exact ⟨a, xs, r, n, by simp only [backO, n, o], t, RepL.om (backO_om e) vs xs q⟩
  | al i => exact absurd (show ([] : L2.St)[i]? = _ from h) (by simp)
theorem RepX.om (m : OM ow ow') {x : Xd} {c : Value} {d : Option Addr} (h : RepX G ow H x c d) : RepX G ow' H x c d := by
  obtain ⟨e, da, n, v, e2, e3, e4, r⟩ := h
  exact ⟨e, da, n, v, e2, m.non _ e3, e4, Rep.om m _ _ r⟩
end

/-! ### defs -/
structure FnG (P : Program) (w : World) (K : PySem.W.Frag) (mg : Str → Option Value) (base : Heap) (k : Nat) (f : Addr) (fd : FuncData) (ps : List Str) (sp : Sp) : Prop where
  len : ∀ vs H Q E, sp vs H Q E → vs.length = ps.length
  run : ∀ (A : Around) (outer : List Env) (s : Shared) (H : Hp) (args : Args) (us : List Value) (vs : List V) (Q : VK) (E : XK), Room k A → A.guards = some [] → Env0 P w K mg base A outer s H → BindsTo s fd args (ps.zip us) → Vals vs us → sp vs H Q E →
    codeAny (model P w) A (.call (.ref f) args) (CR (L2.CX P w) outer P w H s Q E) s
theorem FnG.mono {P : Program} {w : World} {K : PySem.W.Frag} {mg : Str → Option Value} {base : Heap} {j k : Nat} {f : Addr} {fd : FuncData} {ps : List Str} {sp : Sp} (F : FnG P w K mg base j f fd ps sp) (h : j ≤ k) : FnG P w K mg base k f fd ps sp :=
  ⟨F.len, fun A outer s H args us vs Q E hr => F.run A outer s H args us vs Q E (hr.mono h)⟩
theorem fnG_of {P : Program} {w : World} {K : PySem.W.Frag} {mg : Str → Option Value} {base : Heap} {k : Nat} {f : Addr} {name qual : Str} {params : Arguments} {body : List Stmt} {scope : Scope} {dV kV doc pm cdv ct oc : Value} {an od : Option Addr}
    {osl : Array (Option Value)} {N ps : List Str} {sp : Sp} (lk : K.lookup f = some ⟨oc, od, .func (PySem.W.fnOf name qual params body scope dV kV doc pm an cdv ct), osl⟩) (hcd : PySem.W.codeIn K cdv qual = true) (S : FnScope N ps scope)
    (len : ∀ vs H Q E, sp vs H Q E → vs.length = ps.length)
    (hbody : ∀ (A : Around) (outer : List Env) (s : Shared) (H : Hp) (vs : List V) (Q : VK) (E : XK), Room k (A.deeper (envOfC qual scope s.heap.objs.size f cdv)) → A.guards = some [] → sp vs H Q E →
      ∃ t, PSs (cxOf (L2.CX P w) P w K mg base N qual scope f cdv A outer s H E) body t ∧ t { nx := fun _ H' => Q .non H', rt := Q } (L2.start N vs) H) :
    FnG P w K mg base (k + 1) f (PySem.W.fnOf name qual params body scope dV kV doc pm an cdv ct) ps sp := by
  refine ⟨len, fun A outer s H args us vs Q E hr hgd e0 hb r hsp => ?_⟩
  have hl := len _ _ _ _ hsp
  have KX : K.In s.heap := e0.mod.kin.keeps fun b o e => (e0.bs b o e).1
  have lim : s.heap.NoLimit := e0.mod.nolimit.keeps fun b o e => (e0.bs b o e).1
  have hkind : ∀ y ∈ ps.zip us, scope.names.lookup y.1 = some .local ∨ (scope.names.lookup y.1 = some .cell ∧ ((cellsFrom (s.heap.objs.size + 1) scope.names []).lookup y.1).isSome = true) := fun ⟨n, v⟩ hy => by
    rcases S.par n (List.of_mem_zip hy).1 with q | q
    · exact .inl q
    · exact .inr ⟨q, PySem.W.cellsFrom_some _ _ _ (.inl q)⟩
  refine codeAny_call_function hr.depth (KX _ _ lk) rfl S.co S.gen rfl (PySem.W.codeRec_of KX hcd) (hb _ _ _ _ ?_)
  refine wpAny_newFunctionEnv_cells S.kind hkind fun env he s1 x => ?_
  subst he
  refine ⟨lim.keeps x.toInCall.keep, codeAny_func ?_⟩
  obtain ⟨t, ht, hq⟩ := hbody A outer s H vs Q E (hr.deeper _) hgd hsp
  have I : Inv (cxOf (L2.CX P w) P w K mg base N qual scope f cdv A outer s H E) [] (L2.start N vs) H s1 := inv_start S hr.hd e0 hl r x
  refine wpAny_mono (ht.run [] s1 (L2.start N vs) H _ I hq) (fun fl s' hs => ?_) fun e s' hs => hs
  have fin : ∀ {σ' : L2.St} {H' : Hp} {v : V} {u : Value}, Inv (cxOf (L2.CX P w) P w K mg base N qual scope f cdv A outer s H E) [] σ' H' s' → RelV v u → Q v H' → CE outer P w H s Q u s' :=
    fun {σ' H' v u} J rv q => ⟨v, H', J.os, J.bare, J.base, J.hok, rv, q⟩
  cases fl with
  | ret u =>
    obtain ⟨v, σ', H', J, rv, q⟩ := hs
    exact fin J rv q
  | next =>
    obtain ⟨σ', H', J, q⟩ := hs
    exact fin (v := V.non) (u := Value.none) J rfl q
  | brk =>
    obtain ⟨_, _, _, q⟩ := hs
    exact False.elim q
  | cont =>
    obtain ⟨_, _, _, q⟩ := hs
    exact False.elim q

/-- what a def computes of its arguments: the results, the exceptions -/
abbrev Den := List D → Gst → (Rv → Gst → Prop) → (Xd → Gst → Prop) → Prop
def liftF (G : GT) (n : Nat) (F : Den) : Sp := fun vs H Q E => ∃ ow ds g Qd Ed, (∀ b, Ow.isSlot (ow b) = false) ∧ ds.length = n ∧ GR G ow H g ∧ RepL G H ow ds vs ∧ F ds g Qd Ed ∧
  (∀ r g', Qd r g' → ∀ v H' ow', Ext ow H ow' H' → GR G ow' H' g' → RepR G ow' H' H [] r v → Q v H') ∧ (∀ x g', Ed x g' → ∀ c d H' ow', Ext ow H ow' H' → GR G ow' H' g' → RepX G ow' H' x c d → E c d H')
structure DFn (G : GT) (P : Program) (w : World) (K : PySem.W.Frag) (mg : Str → Option Value) (base : Heap) (k : Nat) (f : Addr) (fd : FuncData) (ps : List Str) (F : Den) : Prop where
  fn : FnG P w K mg base k f fd ps (liftF G ps.length F)
theorem DFn.mono {G : GT} {P : Program} {w : World} {K : PySem.W.Frag} {mg : Str → Option Value} {base : Heap} {j k : Nat} {f : Addr} {fd : FuncData} {ps : List Str} {F : Den} (h : DFn G P w K mg base j f fd ps F) (l : j ≤ k) : DFn G P w K mg base k f fd ps F := ⟨h.fn.mono l⟩
theorem DFn.imp {G : GT} {P : Program} {w : World} {K : PySem.W.Frag} {mg : Str → Option Value} {base : Heap} {k : Nat} {f : Addr} {fd : FuncData} {ps : List Str} {F F' : Den} (h : DFn G P w K mg base k f fd ps F) (i : ∀ ds g Q E, F' ds g Q E → F ds g Q E) : DFn G P w K mg base k f fd ps F' :=
  ⟨⟨fun vs H Q E ⟨ow, ds, g, Qd, Ed, h1, h2, h3, h4, h5, h6⟩ => h.fn.len vs H Q E ⟨ow, ds, g, Qd, Ed, h1, h2, h3, h4, i _ _ _ _ h5, h6⟩,
    fun A outer s H args us vs Q E hr hg he hb hv ⟨ow, ds, g, Qd, Ed, h1, h2, h3, h4, h5, h6⟩ => h.fn.run A outer s H args us vs Q E hr hg he hb hv ⟨ow, ds, g, Qd, Ed, h1, h2, h3, h4, i _ _ _ _ h5, h6⟩⟩⟩
def outR (s : Sd) : Rv → Option Rv
  | .al i => match nthO s.e i with
    | some (.v d) => some (.v d)
    | some (.ol l) => some (.ol l)
    | some (.od tb ks vs) => some (.od tb ks vs)
    | none => none
  | r => some r
def startD (n : Nat) (ds : List D) : List (Option Sv) := ds.map (fun d => some (.v d)) ++ List.replicate (n - ds.length) none
def dFn (n : Nat) (t : DS) : Den := fun ds g Qd Ed => t { nx := fun s => Qd (.v .non) s.g, rt := fun r s => bindO (outR s r) fun r' => Qd r' s.g, ex := fun x s => Ed x s.g } ⟨startD n ds, g⟩
section
variable {G : GT} {W : WX} {ow ow' owc : OW} {H H' H0 : Hp} {σ : L2.St} {s s' : Sd}
theorem start_sl {N : List Str} : ∀ {ds : List D} {vs : List V}, RepL G H ow ds vs → ∀ (i : Nat) (sv : Sv), (ds.map (fun d => some (Sv.v d)) ++ List.replicate (N.length - ds.length) none)[i]? = some (some sv) → ∃ v, (vs.map some ++ List.replicate (N.length - vs.length) none)[i]? = some (some v) ∧ RepS G ow H i sv v := by
  intro ds vs r i sv e
  by_cases hi : i < ds.length
  · rw [List.getElem?_append_left (by simpa using hi), List.getElem?_map] at e
    cases q : ds[i]? with
    | none => rw [q] at e; cases e
    | some d =>
      rw [q] at e
      cases e
      obtain ⟨x, hx, rx⟩ := r.get q
      exact ⟨x, by rw [List.getElem?_append_left (by simpa [r.length] using hi), List.getElem?_map, hx]; rfl, rx⟩
  · rw [List.getElem?_append_right (by simpa using hi), List.getElem?_replicate] at e
    split at e <;> cases e
theorem er_start {N : List Str} {ds : List D} {vs : List V} {g : Gst} (r : RepL G H ow ds vs) (q : GR G ow H g) : ER G ow H (L2.start N vs) ⟨startD N.length ds, g⟩ where
  len := by
    show (L2.start N vs).length = (startD N.length ds).length
    unfold L2.start startD
    simp only [List.length_append, List.length_map, List.length_replicate, r.length]
  sl := fun i sv e => start_sl r i sv e
  gr := q
theorem out_ok (hn : ∀ b, Ow.isSlot (ow b) = false) (e : Ext ow H ow' H') (E : ER G ow' H' σ s) {r r' : Rv} {v : V} (h : RepR G ow' H' H σ r v) (q : outR s r = some r') : ∃ ow2, Ext ow H ow2 H' ∧ GR G ow2 H' s.g ∧ RepR G ow2 H' H [] r' v := by
  cases r with
  | v d => cases q; exact ⟨ow', e, E.gr, h⟩
  | ol l => cases q; exact ⟨ow', e, E.gr, h⟩
  | od tb ks vs => cases q; exact ⟨ow', e, E.gr, h⟩
  | al i =>
    cases hs : nthO s.e i with
    | none => simp only [outR, hs] at q; cases q
    | some sv =>
      obtain ⟨v', g1, g2⟩ := E.get hs
      rw [show σ[i]? = some (some v) from h] at g1
      cases g1
      have key : ∀ {a : Addr}, ow' a = some (.slot i) → (H' a).isSome = true → H a = none ∧ OM ow' (ow1 ow' a (some .tmp)) ∧ Ext ow H (ow1 ow' a (some .tmp)) H' := fun {a} o hs => by
        have n : H a = none := by
          cases q : H a with
          | none => rfl
          | some u =>
            have z := e.own_keep q (hn a)
            rw [o] at z
            have y := hn a
            rw [← z] at y
            cases y
        refine ⟨n, ⟨fun b z => ?_, fun b w f z => ?_, fun b w f z => ?_⟩, e.told1 n⟩
        · rw [ow1_ne (fun y => by subst y; rw [o] at z; cases z)]; exact z
        · rw [ow1_ne (fun y => by subst y; rw [o] at z; cases z; cases f)]; exact z
        · by_cases y : b = a
          · subst y; rw [ow1_same] at z; cases z; cases f
          · rw [ow1_ne y] at z; exact z
      cases sv with
      | v d => simp only [outR, hs] at q; cases q; exact ⟨ow', e, E.gr, g2⟩
      | ol l =>
        simp only [outR, hs] at q; cases q
        obtain ⟨a, xs, rfl, o, t, r⟩ := g2
        obtain ⟨n, m, e2⟩ := key o (by rw [t]; rfl)
        exact ⟨_, e2, E.gr.om m, a, xs, rfl, n, ow1_same, t, RepL.om m l xs r⟩
      | od tb ks vs =>
        simp only [outR, hs] at q; cases q
        obtain ⟨a, xs, rfl, o, t, r⟩ := g2
        obtain ⟨u, hu⟩ := t.ex
        obtain ⟨n, m, e2⟩ := key o (by rw [hu]; rfl)
        exact ⟨_, e2, E.gr.om m, a, xs, rfl, n, ow1_same, t, RepL.om m vs xs r⟩
/-- a def by its body -/
theorem dfn_of {P : Program} {w : World} {K : PySem.W.Frag} {mg : Str → Option Value} {base : Heap} {k : Nat} {f : Addr} {x qual : Str} {st : Stmt} {fd : FuncData} {N ps : List Str} {t : DS} (F : Fun K x qual st f fd) (S : FnScope N ps (defScope st))
    (hbody : ∀ (cdv : Value) (A : Around) (outer : List Env) (s : Shared) (H : Hp) (E : XK), Room k (A.deeper (envOfC qual (defScope st) s.heap.objs.size f cdv)) → A.guards = some [] →
      Takes (cxOf (L2.CX P w) P w K mg base N qual (defScope st) f cdv A outer s H E) (fun c d _ H' => E c d H') →
      PDSs G (cxOf (L2.CX P w) P w K mg base N qual (defScope st) f cdv A outer s H E) (fun c d _ H' => E c d H') (defBody st) t) : DFn G P w K mg base (k + 1) f fd ps (dFn N.length t) := by
  obtain ⟨oc, od, kV, doc, pm, an, cdv, ct, osl, rfl, lk, hcd⟩ := F.ex
  refine ⟨fnG_of lk hcd S (fun vs H Q E h => ?_) fun A outer s H vs Q E hr hg h => ?_⟩
  · obtain ⟨ow, ds, g, Qd, Ed, h1, h2, h3, h4, _⟩ := h
    rw [h4.length, h2]
  · obtain ⟨ow, ds, g, Qd, Ed, h1, h2, h3, h4, h5, h6, h7⟩ := h
    refine ⟨_, (hbody cdv A outer s H E hr hg (takes_of rfl rfl rfl rfl)).ps, ?_⟩
    refine ⟨ow, _, _, er_start h4 h3, h5, ⟨fun s1 q1 σ1 H1 ow1 e1 E1 => h6 _ _ q1 _ _ _ e1 E1.gr (by rw [RepR, Rep]), fun r s1 q1 v σ1 H1 ow1 e1 E1 R1 => ?_, fun _ z => z.elim, fun _ z => z.elim, fun x s1 q1 c d σ1 H1 ow1 e1 E1 R1 => h7 _ _ q1 _ _ _ _ e1 E1.gr R1⟩⟩
    obtain ⟨r', hr', q1⟩ := bindO_some q1
    obtain ⟨ow2, e2, g2, R2⟩ := out_ok h1 e1 E1 R1 hr'
    exact h6 _ _ q1 _ _ _ e2 g2 R2
end

/-! ### calls -/
def dCall (F : Den) (n : Nat) (dds : List D) (t : DA) : DE := fun s Q E => t s (fun ds s1 => guardB (ds.length == n) (F (ds ++ dds) s1.g (fun r g' => Q r ⟨s1.e, g'⟩) (fun x g' => E x ⟨s1.e, g'⟩))) E
def tCallSD (sp : Sp) (dvs : List V) (E : L2.St → XK) (t : TA) : TE := fun σ H Q => t σ H fun vs H1 => sp (vs ++ dvs) H1 Q (E σ)
section
variable {G : GT} {X : Cx} {W : WX} {k : Nat} {f : Addr} {fd : FuncData} {ps : List Str} {sp : Sp} {dvs : List V} {us0 : List Value} {x : Str} {p pos : Pos} {e : Expr} {es : List Expr} {t : DA} {ta : TA} {F : Den} {dds : List D}
theorem run_fnG {pins : List (Addr × Obj)} {σ : L2.St} {H : Hp} {s : Shared} {Q : VK} {E : L2.St → XK} {us : List Value} {vs : List V} (F : FnG X.prog X.w X.K X.mg X.base k f fd ps sp) (hr : Room k X.A) (hgd : X.A.guards = some []) (hb : Binds X.K fd ps us0) (hd : Vals dvs us0)
    (hx : PassesAt (L2.CX X.prog X.w) X σ (E σ)) (I : Inv X pins σ H s) (r : Vals vs us) (h : sp (vs ++ dvs) H Q (E σ)) : wpAny (model X.prog X.w) X.A (call (.ref f) us) (EP X pins σ Q) X.xe s := by
  have r2 : Vals (vs ++ dvs) (us ++ us0) := r.append hd
  have hl : (us ++ us0).length = ps.length := by rw [← r2.length]; exact F.len _ _ _ _ h
  refine wpAny_call (codeAny_mono (F.run X.A X.stack s H ⟨us, []⟩ (us ++ us0) (vs ++ dvs) Q (E σ) hr hgd I.env0 (hb s us I.kIn hl) r2 h) fun r s' hq => ?_)
  cases r with
  | error e => exact hx pins H s e s' I hq
  | ok fl =>
    cases fl with
    | ret u => exact I.after hq
    | next => exact False.elim hq
    | brk => exact False.elim hq
    | cont => exact False.elim hq
theorem pe_callG {E : L2.St → XK} (F : FnG X.prog X.w X.K X.mg X.base k f fd ps sp) (hr : Room k X.A) (hgd : X.A.guards = some []) (hg : Gl X x) (hm : X.mg x = some (.ref f)) (hk : PySem.W.keepIn X.K (.ref f) = true) (hb : Binds X.K fd ps us0) (hd : Vals dvs us0) (hx : ∀ σ, PassesAt (L2.CX X.prog X.w) X σ (E σ))
    (ha : PA X (e :: es) ta) (hdb : (x == ("__debug__" : Str)) = false := by decide) (he : starEach (e :: es) X.env = (false, eval e X.env) :: starEach es X.env := by rfl) (hpl : (backTo pos (starEach es X.env)).any (·.1) = false := by rfl) :
    PE X (.Call (.Name x p) (e :: es) [] pos) (tCallSD sp dvs E ta) := by
  refine ⟨fun pins s σ H Q I h => ?_⟩
  refine wpAny_Call_Name_kw (ld_glob I hg hm ?_ hdb)
  refine PySem.W.callWith_K (h₀ := X.base) I.ok.mod.kin hk (thn (ha.run pos pins s σ H _ I h) fun us s1 ⟨vs, H1, I1, r, q⟩ => ⟨I1.kIn, ?_⟩) he hpl
  exact run_fnG F hr hgd hb hd (hx σ) I1 r q
/-- defaults: values that stand for data wherever -/
def DV (G : GT) (dds : List D) (dvs : List V) (us : List Value) : Prop := Vals dvs us ∧ ∀ H ow, RepL G H ow dds dvs
theorem dv0 {G : GT} : DV G [] [] [] := ⟨.nil, fun _ _ => RepL.nil⟩
theorem RepL.append' {G : GT} {H : Hp} {ow : OW} {l m : List D} {xs ys : List V} (h : RepL G H ow l xs) (q : RepL G H ow m ys) : RepL G H ow (l ++ m) (xs ++ ys) := h.append q
theorem pd_call (F' : DFn G X.prog X.w X.K X.mg X.base k f fd ps F) (hr : Room k X.A) (hgd : X.A.guards = some []) (hg : Gl X x) (hm : X.mg x = some (.ref f)) (hk : PySem.W.keepIn X.K (.ref f) = true) (hb : Binds X.K fd ps us0) (hd : DV G dds dvs us0) (tk : Takes X W)
    (ha : PDA G X W (e :: es) t) (n : Nat) (hl : n + dds.length = ps.length := by rfl)
    (hdb : (x == ("__debug__" : Str)) = false := by decide) (he : starEach (e :: es) X.env = (false, eval e X.env) :: starEach es X.env := by rfl) (hpl : (backTo pos (starEach es X.env)).any (·.1) = false := by rfl) :
    PD G X W (.Call (.Name x p) (e :: es) [] pos) (dCall F n dds t) :=
  ⟨PE.wk (pe_callG F'.fn hr hgd hg hm hk hb hd.1 (fun σ => passAt tk σ) ha.pa hdb he hpl) fun σ H Q _ h => by
    obtain ⟨ow, s, Qd, Ed, E, q, hQ, hE⟩ := h
    refine ⟨ow, s, _, _, E, q, fun ds s1 q1 vs H1 ow1 e1 E1 R1 => ?_, hE⟩
    obtain ⟨ql, q1⟩ := guardB_and q1
    have ql := beq_iff_eq.mp ql
    refine ⟨farO ow1, ds ++ dds, s1.g, _, _, fun b => farO_slot, by rw [List.length_append, ql, hl], E1.gr.om farO_om, (RepL.om farO_om ds vs R1).append (hd.2 _ _), q1, fun r g' qr v H2 ow2 e2 g2 R2 => ?_, fun x g' qx c d H2 ow2 e2 g2 R2 => ?_⟩
    · exact hQ _ _ qr _ _ _ (e1.trans (backO_ext e2)) (backO_er e2 E1 g2) ((backO_repR e2 R2).from e1)
    · exact hE _ _ qx _ _ _ _ (e1.trans (backO_ext e2)) (backO_er e2 E1 g2) (R2.om (backO_om e2))⟩
end
end DL
namespace DL
open PySem PySem.Spec PyProof.Rows

/-! ### own exceptions whose __init__ calls super().__init__(text) and stores one field -/
section
open PySem.W PySem.Calls PySem.HandSPX Builtin Builtin.ObjectAttr
theorem bcheck {B a b : String} {n : Nat} : Bind.check { machinery := Manifest.Machinery.positional, full := "*", short := B, receiver := Manifest.Receiver.self, params := [{ name := "args", kind := Manifest.ParamKind.varPos, required := false }] } a b n [] = pure () := by
  unfold Bind.check
  simp only [List.isEmpty_nil, Bool.not_true, Bool.false_and]
  rw [if_neg (by decide)]
  unfold Bind.checkCount
  have e1 : (List.filter (fun p => Bind.isPositional p && p.required) [({ name := "args", kind := Manifest.ParamKind.varPos, required := false } : Manifest.Param)]).length = 0 := by decide
  have e2 : (([({ name := "args", kind := Manifest.ParamKind.varPos, required := false } : Manifest.Param)]).any fun x => x.kind == Manifest.ParamKind.varPos) = true := by decide
  simp only [e1, e2, Bool.not_true, Bool.and_false]
  rw [if_neg (Nat.not_lt_zero n), if_neg (by decide)]
section
variable {prog : Program} {w : World} {M : Model} {A : Around} {R : Result → Shared → Prop} {h : Heap} {E : Value → Shared → Prop}
  {g : Array GenState} {d : Drawn} {t : Nat} {os : OsState} {nm q : Str} {C N : Addr} {bs bm bmB : List Value}
  {hdct : Bool} {sn : List Str} {sub : List Value} {ab : Bool} {col : Option Bool} {dd : Option Addr}
  {k0 k1 k2 k3 k5 : Option Value} {B newId initId : String}
theorem new_ownU (F : ExcBaseFacts B newId initId bmB)
  (hB : bm.contains (Value.type B) = true) (hA : bm.contains (Value.type "AttributeError") = false) (hN : bm.contains (Value.type "NameError") = false) {rest : List Value}
  (hC : h.get? C = some (excClassObj nm q C N bs bm hdct sn sub ab col dd k0 k1 k2 k3 k5 newId))
  (hq : R (Except.ok (Flow.ret (Value.ref (h.objs.size + 1)))) { heap := (h.push (kdv_tup rest)).push (excO C h.objs.size), gens := g, drawn := d, toks := t, os := os })
  (hrest : rest.length ≤ sizeLine) :
  codeAny (model prog w) A (Code.builtin newId { pos := Value.ref C :: rest }) R { heap := h, gens := g, drawn := d, toks := t, os := os } := by
  have hcB : (Value.ref C :: bm).contains (Value.type B) = true := by rw [List.contains_cons, hB, Bool.or_true]
  have hcA : (Value.ref C :: bm).contains (Value.type "AttributeError") = false := by rw [List.contains_cons, hA]; rfl
  have hcN : (Value.ref C :: bm).contains (Value.type "NameError") = false := by rw [List.contains_cons, hN]; rfl
  refine codeAny_builtinAt F.entry ?_
  show PySem.wpAt _ _ _ (Builtin.«BaseException.__new__» _) _ _ _
  unfold Builtin.«BaseException.__new__»
  refine PySem.wpAt_bind ?_
  refine PySem.wpAt_bind ?_
  refine PySem.wpAt_stack fun p below => ?_
  refine wpAt_of_wpAny ?_
  refine wpAny_ite_true (by simp only [F.ends]; rfl) ?_
  refine wpAny_pure ?_
  refine wpAt_of_wpAny ?_
  rw [F.owner]
  refine wpAny_bind ?_
  refine wpAny_bind ?_
  refine wpAny_loadPart_at hC ?_
  refine wpAny_pure ?_
  refine wpAny_ite_false rfl ?_
  refine wpAny_bind ?_
  refine wpAny_isSubtype_exc hC ?_
  rw [hcB]
  refine wpAny_ite_false rfl ?_
  refine wpAny_bind ?_
  refine wpAny_madeHere_exc F.canon hC ?_
  refine wpAny_bind ?_
  refine wpAny_bind ?_
  refine wpAny_isSubtype_exc hC ?_
  rw [hcA]
  refine wpAny_ite_false rfl ?_
  refine wpAny_bind ?_
  refine wpAny_isSubtype_exc hC ?_
  rw [hcN]
  refine wpAny_ite_false rfl ?_
  refine wpAny_pure ?_
  refine wpAny_bind ?_
  refine wpAny_newTuple ?_ hrest
  refine wpAny_bind ?_
  unfold newObj
  repeat (first | with_reducible refine wpAny_load' (Heap.get?_push_of_some _ hC) ?_ | with_reducible refine wpAny_alloc' ?_ | wp_step)
  show R (.ok (.ret (.ref (h.push (kdv_tup rest)).objs.size))) _
  rw [Heap.size_push]
  exact hq
theorem check_newU (F : ExcBaseFacts B newId initId bmB) (hB : bm.contains (Value.type B) = true) {rest : List Value} {Q : Unit → Shared → Prop}
  (hC : h.get? C = some (excClassObj nm q C N bs bm hdct sn sub ab col dd k0 k1 k2 k3 k5 newId))
  (hq : Q () { heap := h, gens := g, drawn := d, toks := t, os := os }) :
  wpAny M A (checkBuiltinCall newId { pos := Value.ref C :: rest }) Q E { heap := h, gens := g, drawn := d, toks := t, os := os } := by
  have hcB : (Value.ref C :: bm).contains (Value.type B) = true := by rw [List.contains_cons, hB, Bool.or_true]
  have hstar : decide ((B != "*") = true) = true := decide_eq_true F.noStar
  unfold checkBuiltinCall
  simp only [F.newKind, F.newSplit, F.newRow]
  refine wpAny_ite_true rfl ?_
  refine wpAny_bind ?_
  refine wpAny_bind ?_
  refine wpAny_loadPart_at hC ?_
  refine wpAny_pure ?_
  refine wpAny_ite_false rfl ?_
  refine wpAny_bind ?_
  refine wpAny_isSubtype_exc hC ?_
  rw [hcB]
  refine wpAny_ite_false rfl ?_
  refine wpAny_bind ?_
  refine wpAny_staticBase_exc hC ?_
  refine wpAny_bind ?_
  refine wpAny_madeBy_exc hC ?_
  refine wpAny_ite_false (by simp) ?_
  unfold Bind.checkArgs
  refine wpAny_bind ?_
  unfold Bind.printed
  refine wpAny_ite_true hstar ?_
  refine wpAny_pure ?_
  refine wpAny_bind ?_
  refine wpAny_ite_true hstar ?_
  refine wpAny_pure ?_
  refine wpAny_pure ?_
  exact hq

theorem type_callU (F : ExcBaseFacts B newId initId bmB)
  (hB : bm.contains (Value.type B) = true) (hA : bm.contains (Value.type "AttributeError") = false) (hN : bm.contains (Value.type "NameError") = false) {rest : List Value} {fI : Addr} {Q : PySem.Fin → Shared → Prop}
  (hC : h.get? C = some (excClassObj nm q C N bs bm hdct sn sub ab col dd k0 k1 k2 k3 k5 newId))
  (hi : Looks (model prog w) h (typeLookup (Value.ref C) (Str.ofString "__init__")) (some (Value.ref fI)))
  (hb : ∀ (self : Value), Looks (model prog w) h (bindSpecial (Value.ref fI) self) (Value.ref fI, [self]))
  (hrest : rest.length ≤ sizeLine)
  (hq : codeAny (model prog w) A (Code.call (Value.ref fI) { pos := Value.ref (h.objs.size + 1) :: rest })
                    (fun r s' =>
                      match r with
                      | Except.ok (Flow.ret v) =>
                        v = Value.none ∧ Q (Fin.done (Flow.ret (Value.ref (h.objs.size + 1)))) s'
                      | Except.ok a => False
                      | Except.error e => E e s')
                    { heap := (h.push (kdv_tup rest)).push (excO C h.objs.size), gens := g, drawn := d,
                      toks := t, os := os }) :
  wpAny (model prog w) A (Builtin.«type.__call__» { pos := Value.ref C :: rest }) Q E { heap := h, gens := g, drawn := d, toks := t, os := os } := by
  unfold Builtin.«type.__call__»
  refine wpAny_ite_false rfl ?_
  refine wpAny_bind ?_
  refine wpAny_bind ?_
  refine wpAny_bind ?_
  refine wpAny_load' hC ?_
  refine wpAny_pure ?_
  refine wpAny_pure ?_
  refine wpAny_ite_false rfl ?_
  refine wpAny_bind ?_
  refine wpAny_madeBy_exc hC ?_
  refine wpAny_bind ?_
  refine wpAny_pure ?_
  refine wpAny_bind ?_
  refine wpAny_holding ?_
  refine wpAny_call ?_
  refine codeAny_call_builtin_code (Code.quiet_builtin _ F.quiet) (check_newU F hB hC ?_)
  refine new_ownU F hB hA hN hC ?_ hrest
  have hC2 : ((h.push (kdv_tup rest)).push (excO C h.objs.size)).get? C = some (excClassObj nm q C N bs bm hdct sn sub ab col dd k0 k1 k2 k3 k5 newId) := Heap.get?_push_of_some _ (Heap.get?_push_of_some _ hC)
  have hx : ((h.push (kdv_tup rest)).push (excO C h.objs.size)).get? (h.objs.size + 1) = some (excO C h.objs.size) := by heap_get
  have k : ∀ b o, h.get? b = some o → ((h.push (kdv_tup rest)).push (excO C h.objs.size)).get? b = some o := fun b o e => Heap.get?_push_of_some _ (Heap.get?_push_of_some _ e)
  have hi2 := Looks.keeps hi k
  have hb2 := fun self => Looks.keeps (hb self) k
  refine wpAny_bind ?_
  refine wpAny_bind ?_
  refine wpAny_bind ?_
  refine wpAny_loadPart_at hx ?_
  refine wpAny_pure ?_
  refine wpAny_isSubtype_exc hC2 ?_
  have hself : (Value.ref C :: bm).contains (Value.ref C) = true := by rw [List.contains_cons]; simp
  rw [hself]
  refine wpAny_ite_false rfl ?_
  refine wpAny_bind ?_
  refine wpAny_holding ?_
  unfold callSpecial?
  refine wpAny_bind ?_
  unfold specialOf
  refine wpAny_bind ?_
  refine wpAny_bind ?_
  refine wpAny_loadPart_at hx ?_
  refine wpAny_pure ?_
  refine hi2.at ?_
  refine wpAny_holding ?_
  refine wpAny_bind ?_
  refine (hb2 _).at ?_
  refine wpAny_bind ?_
  refine wpAny_call (codeAny_mono hq fun r s' hr => ?_)
  cases r with
  | error e => exact hr
  | ok f =>
    cases f with
    | ret v =>
      obtain ⟨rfl, hr⟩ := hr
      refine wpAny_pure ?_
      exact wpAny_pure hr
    | _ => exact hr.elim
theorem call_ownU (F : ExcBaseFacts B newId initId bmB)
  (hB : bm.contains (Value.type B) = true) (hA : bm.contains (Value.type "AttributeError") = false) (hN : bm.contains (Value.type "NameError") = false) {rest : List Value} {fI : Addr}
  (hC : h.get? C = some (excClassObj nm q C N bs bm hdct sn sub ab col dd k0 k1 k2 k3 k5 newId))
  (hi : Looks (model prog w) h (typeLookup (Value.ref C) (Str.ofString "__init__")) (some (Value.ref fI)))
  (hb : ∀ (self : Value), Looks (model prog w) h (bindSpecial (Value.ref fI) self) (Value.ref fI, [self]))
  (hrest : rest.length ≤ sizeLine)
  (hq : codeAny (model prog w) (A.under (Code.builtin "type.__call__" { pos := Value.ref C :: rest }))
                    (Code.call (Value.ref fI) { pos := Value.ref (h.objs.size + 1) :: rest })
                    (InitBack (h.objs.size + 1) R)
                    { heap := (h.push (kdv_tup rest)).push (excO C h.objs.size), gens := g, drawn := d, toks := t,
                      os := os }) :
  codeAny (model prog w) A (Code.call (Value.ref C) { pos := rest }) R { heap := h, gens := g, drawn := d, toks := t, os := os } := by
  have f1 := tc_lookup
  have f2 := tc_bind (Value.ref C)
  have hTy : ∃ o, h.get? C = some o ∧ o.cls = Value.type "type" := ⟨_, hC, rfl⟩
  refine codeAny_of_tree ?_
  show wpAny _ A.in1 (callAny (.ref C) ⟨rest, []⟩) _ _ _
  simp only [callAny]
  refine wpAny_bind ?_
  refine wpAny_load' hC ?_
  show wpAny _ _ (callAny.viaDunder _ _) _ _ _
  unfold callAny.viaDunder
  refine wpAny_bind ?_
  refine wpAny_specialOf hTy f1 ?_
  refine wpAny_bind ?_
  refine wpAny_of_eq f2 ?_
  refine wpAny_bind ?_
  refine wpAny_pure ?_
  refine wpAny_ite_true rfl ?_
  refine wpAny_pure ?_
  refine ⟨rfl, codeAny_call_builtin_at (Code.quiet_builtin _ (by decide +kernel)) entry_typeCall (wpAny_check_type_call_sub hC (type_callU F hB hA hN hC hi hb hrest (codeAny_mono hq fun r s' z => ?_)))⟩
  cases r with
  | error e => exact z
  | ok f => cases f <;> exact z

theorem check_boundU (hK : builtinKind initId = some Manifest.AttrKind.slot) (hR : Manifest.signature? initId = some { machinery := Manifest.Machinery.positional, full := "*", short := B, receiver := Manifest.Receiver.self, params := [{ name := "args", kind := Manifest.ParamKind.varPos, required := false }] })
  (hS : (B != "*") = true) {e : Addr} {oe : Obj} {rest : List Value} {Q : Unit → Shared → Prop}
  (hC : h.get? C = some (excClassObj nm q C N bs bm hdct sn sub ab col dd k0 k1 k2 k3 k5 newId)) (he : h.get? e = some oe) (hcls : oe.cls = Value.ref C)
  (hq : Q () { heap := h, gens := g, drawn := d, toks := t, os := os }) :
  wpAny M A (checkBoundCall initId { pos := Value.ref e :: rest }) Q E { heap := h, gens := g, drawn := d, toks := t, os := os } := by
  have hshort : decide ((B != "*") = true) = true := decide_eq_true hS
  unfold checkBoundCall
  simp only [hK, hR]
  refine wpAny_ite_true rfl ?_
  unfold Bind.checkArgs
  refine wpAny_bind ?_
  unfold Bind.printed
  refine wpAny_ite_false rfl ?_
  refine wpAny_bind ?_
  unfold Bind.receiverType
  refine wpAny_ite_false rfl ?_
  refine wpAny_bind ?_
  refine wpAny_loadPart_at he ?_
  refine wpAny_pure ?_
  rw [hcls]
  refine wpAny_bind ?_
  refine wpAny_bind ?_
  refine wpAny_bind ?_
  refine wpAny_load' hC ?_
  refine wpAny_pure ?_
  refine wpAny_pure ?_
  refine wpAny_pure ?_
  refine wpAny_bind ?_
  refine wpAny_ite_true hshort ?_
  refine wpAny_pure ?_
  refine wpAny_onRaise ?_
  show wpAny M A (Bind.check _ _ _ _ []) _ _ _
  rw [bcheck]
  refine wpAny_pure ?_
  exact hq
end
/-- own classes, then the mro of a built-in one -/
inductive Tl (bm : List Value) : List Value → Prop
  | base : Tl bm bm
  | own {c : Addr} {l : List Value} : Tl bm l → Tl bm (.ref c :: l)
theorem Tl.contains {bm l : List Value} (t : Tl bm l) (X : String) : l.contains (.type X) = bm.contains (.type X) := by
  induction t with
  | base => rfl
  | own t ih => rw [List.contains_cons, ih]; rfl
/-- what is known of a built-in class -/
structure ExB (B newId initId : String) (bm : List Value) : Prop where
  new : ∃ Bn inN bmN, ExcBaseFacts Bn newId inN bmN ∧ bm.contains (Value.type Bn) = true
  nA : bm.contains (Value.type "AttributeError") = false
  nN : bm.contains (Value.type "NameError") = false
  plain : plainId initId = true
  iEntry : entryFor table initId = some Builtin.«BaseException.__init__»
  iKind : builtinKind initId = some Manifest.AttrKind.slot
  iRow : Manifest.signature? initId = some { machinery := Manifest.Machinery.positional, full := "*", short := B, receiver := Manifest.Receiver.self, params := [{ name := "args", kind := Manifest.ParamKind.varPos, required := false }] }
  star : (B != "*") = true
  sto : StoreFacts B bm "object.__setattr__" "object"
  kxs : KxsFacts B initId
theorem exB_of {B newId initId : String} {bm : List Value} (F : ExcBaseFacts B newId initId bm) (S : StoreFacts B bm "object.__setattr__" "object") (K : KxsFacts B initId) : ExB B newId initId bm :=
  ⟨⟨_, _, _, F, F.hasB⟩, F.noAttr, F.noName, F.init.plain, F.initEntry, F.initKind, F.initRow, F.noStar, S, K⟩
theorem exB_VE : ExB "ValueError" "ValueError.__new__" "ValueError.__init__" [.type "ValueError", .type "Exception", .type "BaseException", .type "object"] := exB_of F.excBase_ValueError F.store_ValueError kxs_ValueError
theorem exB_OE : ExB "OverflowError" "OverflowError.__new__" "OverflowError.__init__" [.type "OverflowError", .type "ArithmeticError", .type "Exception", .type "BaseException", .type "object"] := exB_of F.excBase_OverflowError F.store_OverflowError kxs_OverflowError
theorem keBm : mroOf (Value.type "KeyError") = pure [.type "KeyError", .type "LookupError", .type "Exception", .type "BaseException", .type "object"] := by
  rw [mroOf_type]; kernel_rfl
theorem ke_store : StoreFacts "KeyError" [.type "KeyError", .type "LookupError", .type "Exception", .type "BaseException", .type "object"] "object.__setattr__" "object" where
  mro := keBm
  slot := Slot.of (owner := "object") (n := "__setattr__") (by rw [typeLookup_type, builtinLookup_eq_fast]; kernel_rfl) (by decide +kernel) (by decide +kernel) (by decide +kernel) (Or.inl (by decide +kernel)) (by rw [isSubtype_type]; kernel_rfl) (by decide +kernel)
  entry := F.entry_object_sa
  kind := by kernel_rfl
  split := by kernel_rfl
  hasOwner := by decide +kernel
  args := fun a b c => F.store_ValueError.args a b c
  passes := fun self => by kernel_rfl
theorem exB_KE : ExB "KeyError" "LookupError.__new__" "KeyError.__init__" [.type "KeyError", .type "LookupError", .type "Exception", .type "BaseException", .type "object"] where
  new := ⟨_, _, _, F.excBase_LookupError, by decide +kernel⟩
  nA := by decide +kernel
  nN := by decide +kernel
  plain := PyProof.Rows.excClass_KeyError.init.plain
  iEntry := PyProof.Rows.excClass_KeyError.initEntry
  iKind := PyProof.Rows.excClass_KeyError.initKind
  iRow := PyProof.Rows.excClass_KeyError.initSig
  star := PyProof.Rows.excClass_KeyError.notStar
  sto := ke_store
  kxs := ⟨by kernel_rfl, by kernel_rfl⟩
theorem Tl.pass {B sa owner : String} {bm l : List Value} (S : StoreFacts B bm sa owner) (t : Tl bm l) (self : Value) : refuseLoop self "__setattr__" l = pure () := by
  induction t with
  | base => exact S.passes self
  | own t ih => rw [refuseLoop_ref]; exact ih
theorem Tl.ne {B sa owner : String} {bm l : List Value} (S : StoreFacts B bm sa owner) (t : Tl bm l) : l.isEmpty = false := by
  cases t with
  | base =>
    cases bm with
    | nil =>
      have z := S.hasOwner
      cases z
    | cons => rfl
  | own => rfl
theorem osaG {B newId initId : String} {bm : List Value} (XB : ExB B newId initId bm) {prog : Program} {w : World} {A : Around} {R : Result → Shared → Prop} {hp : Heap} {g : Array GenState} {d : Drawn} {t : Nat} {os : OsState} {K : W.Frag} {name : Str} {tk : Tok} {v : Value} {x C : Addr} {fv : Array Value} {cd : ClassData}
    (X : K.In hp) (hx : hp.get? x = some { cls := .ref C, data := .fields fv }) (hcd : W.clsIn K C = some cd) (hm : Tl bm cd.mro) (hh : cd.hasDict = true) (ha : W.findIn K (.ref C) name = some none)
    (hq : ∀ h' tk' dx, (∀ b o, b ≠ x → hp.get? b = some o → h'.get? b = some o) → hp.objs.size ≤ dx → dx ≠ x → h'.get? x = some { cls := .ref C, dict := some dx, data := .fields fv } →
      h'.Ns1 dx (fun y => if y = name then some v else none) → R (.ok (.ret .none)) ⟨h', g, d, tk', os⟩) :
    codeAny (model prog w) A (.call (.builtin "object.__setattr__") ⟨[.ref x, .str name tk, v], []⟩) R ⟨hp, g, d, t, os⟩ := by
  have I : W.InstAt hp x { cls := .ref C, data := .fields fv } C none := ⟨hx, rfl, rfl, trivial⟩
  have SF := F.store_object
  have ne := hm.ne XB.sto
  have hob : cd.mro.contains (.type "object") = true := (hm.contains "object").trans XB.sto.hasOwner
  have hxs : x ≠ hp.objs.size := Nat.ne_of_lt (Heap.lt_size hx)
  have sub : W.Looks (model prog w) hp (isInstance (.ref x) (.type "object")) true := I.type.andThen (W.looks_mroIn X (by unfold W.mroIn; rw [hcd, Option.bind_some, if_neg (by rw [ne]; decide), hob]))
  refine codeAny_call_builtin SF.slot.plain SF.entry (@W.check_slot (model prog w) _ _ ⟨hp, g, d, t, os⟩ "object.__setattr__" "object" "__setattr__" (.ref x) [.str name tk, v] [] _ SF.kind SF.split sub (SF.args (.ref x) (.str name tk) v) ?_)
  have hmr : W.Looks (model prog w) hp (mroOf (.ref C)) cd.mro := (W.looks_clsIn X hcd).andThen .now
  have L3 : W.Looks (model prog w) hp (storeTaker? none) none := .now
  have hcls : W.Looks (model prog w) hp (classData C) cd := W.looks_clsIn X hcd
  rw [W.osa_eq, refuse_eq]
  refine wpAny_bind (wpAny_bind (I.type.at (wpAny_bind (hmr.at ?_))))
  rw [hm.pass XB.sto]
  refine wpAny_pure (wpAny_bind (I.type.at (wpAny_bind ((W.looks_findIn X ha).at (wpAny_bind (L3.at ?_))))))
  show wpAny _ _ (storeInOwnDict (.ref x) (.ref C) (.str name tk) name v false) _ _ _
  obtain ⟨nm, bs, mro, ns, qn, hd, sn, sb, ab, col, del⟩ := cd
  dsimp only at hh
  subst hh
  unfold storeInOwnDict ownDictForStores
  repeat (first | with_reducible refine store_in_new ?_ ?_ | with_reducible refine wpAny_loadPart_at hx ?_ | with_reducible refine hcls.at ?_ | wp_step)
  · exact ⟨_, #[], _, (Heap.get?_update_ne _ _ _ _ hxs.symm).trans (Heap.get?_push_at rfl rfl), rfl, fun e he => absurd he (by simp), fun _ => rfl⟩
  · intro h' tk' hn' hs
    have hx₁ : (hp.push { cls := .type "dict", data := .dict #[] }).get? x = some { cls := .ref C, data := .fields fv } := Heap.get?_push_of_some _ hx
    refine hq h' tk' hp.objs.size (fun b o hb ho => ?_) (Nat.le_refl _) hxs.symm ?_ hn'
    · exact (hs.2 b (Nat.ne_of_lt (Heap.lt_size ho))).trans ((Heap.get?_update_ne _ _ _ _ hb).trans (Heap.get?_push_of_some _ ho))
    · exact (hs.2 x hxs).trans (Heap.get?_update_self _ hx₁ rfl)

def xA (f : Str) (p1 p2 : Pos) : Arguments := { posonlyargs := [], args := [{ arg := "self", annotation := none, pos := p1 }, { arg := f, annotation := none, pos := p2 }], vararg := none, kwonlyargs := [], kw_defaults := [], kwarg := none, defaults := [] }
def xB (f msg : Str) (j : Nat) (p0 p1 p2 p3 p4 p5 q1 q2 q3 q4 : Pos) : List Stmt :=
  [.Expr (.Call (.Attribute (.Call (.Name "super" p0) [] [] p1) "__init__" p2) [.Constant (.str msg) j p3] [] p4) p5, .Assign [.Attribute (.Name "self" q1) f q2] (.Name f q3) q4]
def xS (f : Str) : Scope := { kind := .function, names := [(PySem.Str.ofString "self", .local), (f, .local), (PySem.Str.ofString "__class__", .free), (PySem.Str.ofString "super", .globalImplicit)], isGenerator := false, isCoroutine := false, more := [] }
/-- what the written part says of such a class, at C, and of its __init__, at fI -/
structure ExT (prog : Program) (K : Frag) (C fI : Addr) (f : Str) (B newId initId : String) (bm : List Value) : Prop where
  XB : ExB B newId initId bm
  cls : ∃ nm q N bs bms sn sub ab col dd k0 k1 k2 k3 k5, K.lookup C = some (excClassObj nm q C N bs bms true sn sub ab col dd k0 k1 k2 k3 k5 newId) ∧ Tl bm bms
  sa : findIn K (.ref C) "__setattr__" = some (some (.builtin "object.__setattr__"))
  ga : findIn K (.ref C) "__getattribute__" = some (some (.builtin "BaseException.__getattribute__"))
  gg : findIn K (.ref C) "__getattr__" = some none
  noN : findIn K (.ref C) f = some none
  iC : findIn K (.ref C) "__init__" = some (some (.ref fI))
  tC : typeIn K (.ref fI) = some (.type "function")
  kC : keepIn K (.ref C) = true
  exC : subIn K (.ref C) (.type "BaseException") = some true
  tyC : typeIn K (.ref C) = some (.type "type")
  hdC : hasDictIn K C = true
  hB : subIn K (.ref C) (.type B) = some true
  sub : mroIn K C (.ref C) = some true
  sup : nsIn K mainGlobals "super" = some none
  opq : nsIn K cStatics "thirdparty.any" = some none
  sin : ks_superIn K C C "__init__" = some (some (.builtin initId))
  top : (prog.main.scope.names.lookup ("super" : Str)).isSome = false
  s1 : (xS f).names.lookup ("super" : Str) = some .globalImplicit
  s2 : (xS f).names.lookup ("__class__" : Str) = some .free
  s3 : (xS f).names.lookup ("self" : Str) = some .local
  s4 : (xS f).names.lookup f = some .local
  v1 : ∀ a b : Value, ([("self", a), (f, b)] : List (Str × Value)).reverse.lookup ("self" : Str) = some a
  v2 : ∀ a b : Value, ([("self", a), (f, b)] : List (Str × Value)).reverse.lookup f = some b
  dbg : (f == ("__debug__" : Str)) = false
  bnd : ∀ (q : Str) (r1 r2 : Pos) (body : List Stmt) (doc pm : Value) (an : Option Addr) (cdv ct : Value) (cc : Addr) (a b : Value), bindArgs (ksFn "__init__" q (xA f r1 r2) body (xS f) .none .none doc pm an cdv ct cc) ⟨[a, b], []⟩ = pure [(("self" : Str), a), (f, b)]
  nd : ∀ x ∈ (xS f).names, x.2 ≠ .cell
  lc : ∀ (a b : Value), ∀ x ∈ ([("self", a), (f, b)] : List (Str × Value)), (xS f).names.lookup x.1 = some .local
  fn : ∃ (oc ccl cl : Value) (od cdd cld : Option Addr) (doc pm : Value) (an : Option Addr) (cda cc : Addr) (ct : Value) (osl ccs csl : Array (Option Value)) (q msg file : Str) (tf : Tok) (vs : Array Value) (j : Nat) (r1 r2 p0 p1 p2 p3 p4 p5 q1 q2 q3 q4 : Pos),
    K.lookup fI = some ⟨oc, od, .func (ksFn "__init__" q (xA f r1 r2) (xB f msg j p0 p1 p2 p3 p4 p5 q1 q2 q3 q4) (xS f) .none .none doc pm an (.ref cda) ct cc), osl⟩ ∧ codeIn K (.ref cda) q = true ∧
    K.lookup cda = some ⟨ccl, cdd, .fields vs, ccs⟩ ∧ vs[2]? = some (.str file tf) ∧ ((prog.main.file : Str) == file) = true ∧ (∀ env : Env, ∃ pl, eval (.Call (.Attribute (.Call (.Name "super" p0) [] [] p1) "__init__" p2) [.Constant (.str msg) j p3] [] p4) env = (do
      let ov ← attributeBase (.Call (.Name "super" p0) [] [] p1) "__init__" env (eval (.Call (.Name "super" p0) [] [] p1) env)
      standAt p2.atName
      let (f, first) ← holding [ov] (getMethod ov "__init__" pl)
      callWith p4 f first (backTo p4 (starEach [.Constant (.str msg) j p3] env)) [])) ∧ K.lookup cc = some ⟨cl, cld, .cell (some (.ref C)), csl⟩
structure InitE (h h' : Heap) (x C dx : Addr) (f : Str) (v : Value) : Prop where
  keep : ∀ b o, b ≠ x → h.get? b = some o → h'.get? b = some o
  obj : ∃ t1 : Addr, h'.get? x = some { cls := .ref C, dict := some dx, data := .fields #[.ref t1, .none, .none, .none, .bool false, .none] }
  dbig : h.objs.size ≤ dx
  dne : dx ≠ x
  ns : h'.Ns1 dx (fun y => if y = f then some v else none)
/-- the built-in __init__ that super() handed out, called -/
theorem mw_call {prog : Program} {w : World} {A : Around} {E : Value → Shared → Prop} {hh : Heap} {g : Array GenState} {d : Drawn} {tk : Tok} {os : OsState} {B newId initId : String} {bm : List Value} {x C u t0 : Addr} {rest : List Value} {Q : Value → Shared → Prop} (XB : ExB B newId initId bm)
    (hC : ∃ nm q N bs bms sn sub ab col dd k0 k1 k2 k3 k5, hh.get? C = some (excClassObj nm q C N bs bms true sn sub ab col dd k0 k1 k2 k3 k5 newId)) (hu : hh.get? u = some (kxs_mw initId x)) (hx : hh.get? x = some (excO C t0)) (hz : rest.length ≤ sizeLine)
    (hq : ∀ h' t1, (∀ b o, b ≠ x → hh.get? b = some o → h'.get? b = some o) → h'.get? x = some (excO C t1) → Q .none ⟨h', g, d, tk, os⟩) : wpAny (model prog w) A (call (.ref u) rest) Q E ⟨hh, g, d, tk, os⟩ := by
  obtain ⟨nm, q, N, bs, bms, sn, sub, ab, col, dd, k0, k1, k2, k3, k5, hC⟩ := hC
  refine wpAny_call (codeAny_of_tree ?_)
  show wpAny _ A.in1 (callAny (.ref u) ⟨rest, []⟩) _ _ _
  simp only [callAny]
  refine wpAny_bind (wpAny_load hu ?_)
  simp only [kxs_mw, show (Value.type "method-wrapper" == Value.type "method" || Value.type "method-wrapper" == Value.type "builtin_function_or_method" || Value.type "method-wrapper" == Value.type "method-wrapper") = true by decide, if_true]
  refine KFB.if_so (by decide) ?_
  refine wpAny_bind (check_boundU XB.iKind XB.iRow XB.star hC hx rfl ?_)
  refine wpAny_bind (wpAny_pure (wpAny_pure ?_))
  refine ⟨plainId_quiet XB.plain _, codeAny_builtin XB.iEntry ?_⟩
  exact exc_init_tree (cls := .ref C) (t0 := t0) (dv := none) (c2 := .none) (c3 := .none) (b4 := .bool false) hx hz fun h' k e _ => hq h' _ k e
theorem loadG {M : Model} {A : Around} {E : Value → Shared → Prop} {s : Shared} {env : Env} {mg mb : Str → Option Value} {v : Value} {Q : Value → Shared → Prop} (hk : env.scope.kind = .function) (hx : env.kindOf "super" = some .globalImplicit) (hg : s.heap.Ns env.globals mg) (hm : mg "super" = none) (hb : s.heap.Ns env.builtins mb) (hv : mb "super" = some v) (h : Q v s) :
    wpAny M A (loadName env "super") Q E s := ks_loadName_global hk hx (loadGlobal_builtin hg hm hb hv h)
theorem init_exc {prog : Program} {w : World} {A : Around} {R : Result → Shared → Prop} {s : Shared} {K : Frag} {mg mb : Str → Option Value} {C fI : Addr} {f : Str} {B newId initId : String} {bm : List Value} (T : ExT prog K C fI f B newId initId bm) {x t0 : Addr} {v : Value} (X : K.In s.heap)
    (hg : s.heap.Ns mainGlobals mg) (hb : s.heap.Ns builtinsNs mb) (hbb : mb "super" = some (.type "super")) (hlim : s.heap.NoLimit) (hx : s.heap.get? x = some (excO C t0)) (hnx : K.lookup x = none) (nmg : mainGlobals ≠ x) (nbl : builtinsNs ≠ x) (hroom : A.depth < recursionLimit)
    (hq : ∀ h' tk dx, InitE s.heap h' x C dx f v → R (.ok (.ret .none)) { s with heap := h', toks := tk }) :
    codeAny (model prog w) A (.call (.ref fI) ⟨[.ref x, v], []⟩) R s := by
  obtain ⟨oc, ccl, cl, od, cdd, cld, doc, pm, an, cda, cc, ct, osl, ccs, csl, q, msg, file, tf, vs, j, r1, r2, p0, p1, p2, p3, p4, p5, q1, q2, q3, q4, ho, hcd, hcode, hvs, hfile, hev, hcell⟩ := T.fn
  obtain ⟨nm, qn, N, bs, bms, sn, sub, ab, col, dd, k0, k1, k2, k3, k5, hC, htl⟩ := T.cls
  have hcl : clsIn K C = some { name := nm, bases := bs, mro := .ref C :: bms, ns := N, qualname := qn, hasDict := true, slotNames := sn, subclasses := sub, abstract := ab, collection := col, hasDel := false } := by unfold clsIn; rw [hC] <;> rfl
  refine ks_codeAny_call_defAt (fd := ksFn "__init__" q (xA f r1 r2) (xB f msg j p0 p1 p2 p3 p4 p5 q1 q2 q3 q4) (xS f) .none .none doc pm an (.ref cda) ct cc) (body := xB f msg j p0 p1 p2 p3 p4 p5 q1 q2 q3 q4) (binds := [("self", .ref x), (f, v)]) hroom (X _ _ ho) rfl hlim (codeRec_of X hcd) rfl
    (BindsTo.of_eq (T.bnd _ _ _ _ _ _ _ _ _ _ _ _)) T.nd (T.lc _ _) (fun h₁ hns hk₁ => ?_) rfl rfl rfl
  have X₁ : K.In h₁ := X.keeps hk₁
  have hx₁ := hk₁ _ _ hx
  obtain ⟨pl, hev⟩ := hev (ksEnv q (xS f) s.heap.objs.size fI (.ref cda) cc)
  refine ks_wpAt_execs_cons (ks_wpAt_Expr_any (ks_wpAt_MethodCall (pl := pl) ?_ hev))
  refine ks_wpAt_super_base (env := ksEnv q (xS f) s.heap.objs.size fI (.ref cda) cc) T.s1 T.s2 (by decide +kernel) rfl (X₁ _ _ ho) rfl rfl rfl (X₁ _ _ hcode) rfl hvs hfile T.top ?_
  refine loadG rfl T.s1 (hg.keeps hk₁) (mg_none_of X hg T.sup) (hb.keeps hk₁) hbb ⟨rfl, ?_⟩
  refine wpAny_loadName_free rfl T.s2 rfl ⟨_, X₁ _ _ hcell, rfl⟩ ?_
  refine wpAny_loadName_local rfl T.s3 hns (T.v1 _ _) ?_
  have hC₁ := X₁ _ _ hC
  refine ks_wpAny_isType_cls hC₁ rfl ⟨rfl, ?_⟩
  refine ks_wpAny_call_super hC₁ rfl hx₁ rfl (fun c e => by cases e) (looks_mroIn X₁ T.sub) (fun h₂ hso k₂ => ?_)
  have X₂ := X₁.keeps k₂
  have hx₂ := k₂ _ _ hx₁
  have hin : alongIn K "__init__" (((Value.ref C :: bms).dropWhile (· != .ref C)).drop 1) = some (some (.builtin initId)) := by
    have z := T.sin
    unfold ks_superIn at z
    rw [hcl] at z
    exact z
  have I2 : InstAt h₂ x (excO C t0) C none := ⟨hx₂, rfl, rfl, trivial⟩
  have hI : Looks (model prog w) h₂ (isInstance (.ref x) (.type B)) true := I2.type.andThen (looks_subIn X₂ T.hB)
  refine kxs_getMethod T.XB.kxs hso (looks_opaque X₂ T.opq) (l₀ := .ref C :: bms) (fun A Q E s k q => wpAny_bind ((looks_clsIn X₂ hcl) A _ E s k (wpAny_pure q))) rfl X₂ hin hI (ks_ne X₂ I2 hcl) (by decide +kernel) ?_
  have k₃ : ∀ b o, h₂.get? b = some o → (h₂.push (kxs_mw initId x)).get? b = some o := fun b o e => Heap.get?_push_of_some _ e
  have hmw : (h₂.push (kxs_mw initId x)).get? h₂.objs.size = some (kxs_mw initId x) := Heap.get?_push_at rfl rfl
  have hx₃ := k₃ _ _ hx₂
  refine kxs_callWith (i := initId) (x := x) rfl (evalArgs_plain ?_)
  refine spliced_cons (wpAny_Constant_str (k := j) (pos := p3) (spliced_nil ⟨hmw, ?_⟩))
  refine mw_call T.XB ⟨nm, qn, N, bs, bms, sn, sub, ab, col, dd, k0, k1, k2, k3, k5, k₃ _ _ (k₂ _ _ hC₁)⟩ hmw hx₃ (by rw [sizeLine_eq]; exact (by decide : 1 ≤ 16777216)) fun h₄ t1 k₄ hx₄ => ?_
  have kk : ∀ b o, b ≠ x → s.heap.get? b = some o → h₄.get? b = some o := fun b o n e => k₄ b o n (k₃ b o (k₂ b o (hk₁ b o e)))
  have X₄ : K.In h₄ := fun b o e => kk b o (fun z => by rw [z, hnx] at e; cases e) (X b o e)
  have nL : s.heap.objs.size ≠ x := Nat.ne_of_gt (Heap.lt_size hx)
  have hns₄ : h₄.Ns s.heap.objs.size (fun y => ([("self", Value.ref x), (f, v)] : List (Str × Value)).reverse.lookup y) := by
    obtain ⟨o, es, ep, e, r⟩ := hns
    exact ⟨o, es, ep, k₄ _ _ nL (k₃ _ _ (k₂ _ _ e)), r⟩
  refine ks_wpAt_execs_cons (ks_wpAt_Assign_Attr ?_ rfl)
  refine wpAt_of_wpAny (wpAny_Name (wpAny_loadName_local rfl T.s4 hns₄ (T.v2 _ _) ?_) T.dbg)
  refine wpAny_Name (wpAny_loadName_local rfl T.s3 hns₄ (T.v1 _ _) ?_) (by decide +kernel)
  refine set_plain X₄ (ox := excO C t1) (od := none) ⟨hx₄, rfl, rfl, trivial⟩ T.sa ?_
  refine osaG T.XB X₄ hx₄ hcl (show Tl bm (.ref C :: bms) from .own htl) rfl T.noN (fun h₅ tk₅ dx k₅ dn dne hx₅ hn₅ => ?_)
  have z : s.heap.objs.size < h₄.objs.size := hns₄.lt
  exact wpAt_of_wpAny (wpAny_execs_nil (hq h₅ tk₅ dx ⟨fun b o hb e => k₅ b o hb (kk b o hb e), ⟨t1, hx₅⟩, Nat.le_of_lt (Nat.lt_of_lt_of_le z dn), dne, hn₅⟩))
end
end DL
namespace DL
open PySem PySem.Spec PyProof.Rows L2

/-! ### C(e) made -/
section
open PySem.W PySem.Calls PySem.HandSPX
structure OwnE (h h' : Heap) (e C d : Addr) (f : Str) (v : Value) : Prop where
  keep : ∀ b o, h.get? b = some o → h'.get? b = some o
  new : h.objs.size ≤ e
  obj : ∃ oe vs, h'.get? e = some oe ∧ oe.cls = .ref C ∧ oe.dict = some d ∧ oe.data = .fields vs ∧ vs[1]? = some .none
  dbig : h.objs.size ≤ d
  dne : d ≠ e
  ns : h'.Ns1 d (fun y => if y = f then some v else none)
theorem made_exc {prog : Program} {w : World} {A : Around} {R : Result → Shared → Prop} {s : Shared} {K : Frag} {mg mb : Str → Option Value} {C fI : Addr} {f : Str} {B newId initId : String} {bm : List Value} (T : ExT prog K C fI f B newId initId bm) {v : Value} (X : K.In s.heap)
    (hg : s.heap.Ns mainGlobals mg) (hb : s.heap.Ns builtinsNs mb) (hbb : mb "super" = some (.type "super")) (hlim : s.heap.NoLimit) (hroom : A.depth + 1 < recursionLimit)
    (hq : ∀ h' tk e d, OwnE s.heap h' e C d f v → R (.ok (.ret (.ref e))) { s with heap := h', toks := tk }) : codeAny (model prog w) A (.call (.ref C) ⟨[v], []⟩) R s := by
  obtain ⟨nm, q, N, bs, bms, sn, sub, ab, col, dd, k0, k1, k2, k3, k5, hC, htl⟩ := T.cls
  obtain ⟨hp, g, dr, tk, os⟩ := s
  have k : ∀ b o, hp.get? b = some o → ((hp.push (kdv_tup [v])).push (excO C hp.objs.size)).get? b = some o := fun b o e => Heap.get?_push_of_some _ (Heap.get?_push_of_some _ e)
  have hget : ((hp.push (kdv_tup [v])).push (excO C hp.objs.size)).get? (hp.objs.size + 1) = some (excO C hp.objs.size) := by heap_get
  have lt : ∀ {b : Addr} {o : Obj}, hp.get? b = some o → b ≠ hp.objs.size + 1 := fun {b o} e => Nat.ne_of_lt (Nat.lt_succ_of_lt (Heap.lt_size e))
  have hnx : K.lookup (hp.objs.size + 1) = none := by
    cases e : K.lookup (hp.objs.size + 1) with
    | none => rfl
    | some o => exact absurd rfl (lt (X _ _ e))
  have nsn : ∀ {b : Addr} {m : Str → Option Value}, hp.Ns b m → b ≠ hp.objs.size + 1 := fun {b m} ⟨o, es, ep, e, r⟩ => lt e
  obtain ⟨Bn, inN, bmN, FB, hBn⟩ := T.XB.new
  refine call_ownU FB ((htl.contains Bn).trans hBn) ((htl.contains _).trans T.XB.nA) ((htl.contains _).trans T.XB.nN) (X _ _ hC) (looks_findIn X T.iC) (fun self => bind_fn X self T.tC) (by rw [sizeLine_eq]; exact (by decide : 1 ≤ 16777216)) ?_
  refine init_exc (s := ⟨(hp.push (kdv_tup [v])).push (excO C hp.objs.size), g, dr, tk, os⟩) T (X.keeps k) (hg.keeps k) (hb.keeps k) hbb (hlim.keeps k) hget hnx (nsn hg) (nsn hb) ?_ fun h' tk' dx ⟨k', hx, dn, dne, hns⟩ => ?_
  · show A.depth + 1 < recursionLimit
    exact hroom
  · have old : ∀ b o, hp.get? b = some o → h'.get? b = some o := fun b o e => k' b o (lt e) (k b o e)
    have z : hp.objs.size + 1 + 1 ≤ dx := by
      first
        | (simpa only [Heap.size_push] using dn)
        | exact dn
        | (have q := dn; rw [Heap.size_push, Heap.size_push] at q; exact q)
    obtain ⟨t1, hx⟩ := hx
    exact ⟨rfl, hq h' tk' (hp.objs.size + 1) dx ⟨old, Nat.le_succ _, ⟨_, _, hx, rfl, rfl, rfl, rfl⟩, Nat.le_trans (Nat.le_trans (Nat.le_succ _) (Nat.le_succ _)) z, dne, hns⟩⟩
end
theorem relO_one {f : Str} {v : V} {v' : Value} (r : RelV v v') (g : Str) : RelO (List.lookup g [(f, v)]) (if g = f then some v' else none) := by
  by_cases hw : g = f
  · subst hw
    rw [if_pos rfl]
    have q : List.lookup g [(g, v)] = some v := by simp [List.lookup]
    rw [q]
    exact r
  · rw [if_neg hw]
    have qw : (g == f) = false := by simpa using hw
    have q2 : List.lookup g [(f, v)] = none := by simp [List.lookup, qw]
    rw [q2]
    trivial
theorem Inv.super {X : Cx} {pins : List (Addr × Obj)} {σ : L2.St} {H : Hp} {s : Shared} (I : Inv X pins σ H s) : s.heap.Ns mainGlobals X.mg ∧ ∃ mb, s.heap.Ns builtinsNs mb ∧ mb "super" = some (.type "super") := by
  obtain ⟨mb, h1, h2⟩ := I.mod.blt
  exact ⟨I.mod.glob.keeps I.bk, mb, h1.keeps I.bk, (h2 "super" (by decide)).trans (by first | boot_by_name | rfl | kernel_rfl)⟩
def tMkX (C : Addr) (f : Str) (te : TE) : L2.St → Hp → XK → Prop := fun σ H Q => te σ H fun y H1 => ∃ v, [y] = [v] ∧ ∀ d, H1 d = none → Q (.ref C) (some d) (upd H1 d (.xd [(f, v)]))
section
variable {X : Cx} {C fI : Addr} {f x : Str} {B newId initId : String} {bm : List Value} {a : Expr} {te : TE} {p pos : Pos} {k : Nat}
theorem pmk_exc (T : ExT X.prog X.K C fI f B newId initId bm) (hr : Room k X.A) (hm : X.mg x = some (.ref C)) (hg : Gl X x) (ha : PE X a te) (hdb : (x == ("__debug__" : Str)) = false := by decide)
    (he : starEach (a :: []) X.env = (false, eval a X.env) :: starEach [] X.env := by rfl) (hpl : (backTo pos (starEach [] X.env)).any (·.1) = false := by rfl) :
    PMk X (.Call (.Name x p) [a] [] pos) (tMkX C f te) := by
  intro pins s σ H Q I h
  refine wpAny_Call_Name_kw (ld_glob I hg hm ?_ hdb)
  refine PySem.W.callWith_K (h₀ := X.base) I.ok.mod.kin T.kC (thn ((pa_cons ha pa_nil he).run pos pins s σ H (fun vs H1 => ∃ v, vs = [v] ∧ ∀ d, H1 d = none → Q (.ref C) (some d) (upd H1 d (.xd [(f, v)]))) I h) fun us s1 hh => ?_) he hpl
  obtain ⟨vs, H1, I1, r1, v, ev, q1⟩ := hh
  subst ev
  refine ⟨I1.kIn, ?_⟩
  cases r1 with
  | cons rv rn =>
    rename_i v' us'
    cases rn
    show wpAny _ _ (call (.ref C) [v']) _ _ _
    have hlim := I1.nolimit
    obtain ⟨sg, mb, sb, sbb⟩ := Inv.super I1
    obtain ⟨hp, g, dr, tk, os⟩ := s1
    refine wpAny_call (made_exc T I1.kIn sg sb sbb hlim (by have := hr.dp; omega) fun h' tk' e d M => ?_)
    show MkP X pins σ Q (.ref e) ⟨h', g, dr, tk', os⟩
    obtain ⟨oe, fv, hoe, hc, hd, hdat, h1⟩ := M.obj
    have hns := M.ns
    obtain ⟨G', g1, g2⟩ := restrict h' fun b => decide (b ≠ e)
    have gk : ∀ b, b ≠ e → G'.get? b = h'.get? b := fun b hb => g1 b (decide_eq_true hb)
    have ge : G'.get? e = none := g2 e (by simp)
    have old : ∀ b o, hp.get? b = some o → G'.get? b = some o := fun b o q => (gk b (Nat.ne_of_lt (Nat.lt_of_lt_of_le (Heap.lt_size q) M.new))).trans (M.keep b o q)
    have ob : ObjOk X.prog X.w (upd H1 d (.xd [(f, v)])) G' d (.xd [(f, v)]) :=
      ⟨_, hns.at (fun o q => (gk d M.dne).trans q), fun y => relO_one rv y⟩
    have J : Inv X pins σ (upd H1 d (.xd [(f, v)])) ⟨G', g, dr, tk', os⟩ := I1.laid (t' := tk') old M.dbig ob
    refine ⟨e, oe, fv, ⟨G', g, dr, tk', os⟩, _, .ref C, some d, rfl, J, fun b o q => ?_, ge, hoe, ⟨hc, hd⟩, hdat, h1, ?_, rfl, I1.bare, raises_own T.exC T.tyC, q1 d (I1.hok.fresh M.dbig)⟩
    · by_cases hb : b = e
      · have q' : G'.get? b = some o := q
        rw [hb, ge] at q'; cases q'
      · exact (gk b hb).symm.trans q
    · rw [upd_ne (Ne.symm M.dne)]
      exact I1.hok.fresh M.new

/-! ### raise C(e) -/
def dRaise (k : Nat) (te : DE) : DS := fun D s => te s (fun r s1 => bindO (settle r s1) fun p => D.ex ⟨k, p.1⟩ p.2) D.ex
/-- a statement that is never reached -/
def dNever : DS := fun _ _ => False
theorem pds_never {G : GT} {W : WX} {st : Stmt} : PDS G X W st dNever := ⟨⟨fun pins s σ H D I h => by obtain ⟨_, _, _, _, z, _⟩ := h; exact z.elim⟩⟩
theorem mkx_lift {G : GT} {W : WX} {kn : Nat} {te : DE} {σ : L2.St} {H : Hp} {Q : XK} {ow : OW} {s : Sd} {Dx : DX} (E : ER G ow H σ s) (q : te s (fun r s1 => bindO (settle r s1) fun p => Dx ⟨kn, p.1⟩ p.2) Dx) (hx : exW G W ow H σ Dx) (hQ : ∀ x s', Dx x s' → ∀ c d H' ow', Ext ow H ow' H' → ER G ow' H' σ s' → RepX G ow' H' x c d → Q c d H') :
    tMkX (G kn) (xfN kn) (liftE G W te) σ H Q := by
  refine ⟨ow, s, _, Dx, E, q, fun r s1 q1 v H1 owa e1 E1 R1 => ?_, hx⟩
  obtain ⟨⟨d, s2⟩, hs2, q1⟩ := bindO_some q1
  obtain ⟨owb, e2, E2, R2, _⟩ := settle_ok E1 e1 R1 hs2
  refine ⟨v, rfl, fun da hd => ?_⟩
  have e3 : Ext owb H1 (ow1 owb da none) (upd H1 da (.xd [(xfN kn, v)])) := Ext.new hd
  exact hQ _ _ q1 _ _ _ _ (e2.trans e3) (ER.ext_new hd rfl E2) ⟨rfl, da, (), v, rfl, ow1_same, upd_same, Rep.ext e3 d v R2⟩
theorem pds_raise {G : GT} {W : WX} {kn : Nat} {td : DE} {pos2 : Pos} (T : ExT X.prog X.K (G kn) fI (xfN kn) B newId initId bm) (hc : X.calm = true) (tk : Takes X W) (hr : Room k X.A) (hm : X.mg x = some (.ref (G kn))) (hg : Gl X x) (ha : PD G X W a td) (hdb : (x == ("__debug__" : Str)) = false := by decide)
    (he : starEach (a :: []) X.env = (false, eval a X.env) :: starEach [] X.env := by rfl) (hpl : (backTo pos (starEach [] X.env)).any (·.1) = false := by rfl) :
    PDS G X W (.Raise (some (.Call (.Name x p) [a] [] pos)) none pos2) (dRaise kn td) :=
  ⟨PS.wk (ps_raise hc tk (pmk_exc T hr hm hg ha.pe hdb he hpl)) fun D σ H _ h => by
    obtain ⟨ow, s, Dd, E, q, L⟩ := h
    exact mkx_lift E q (L.exW σ) fun x s' qx c d H' ow' e' E' R' => L.ex x s' qx c d σ H' ow' e' E' R'⟩
end

/-! ### try: body, except C as n: suite; the exception stays a value -/
def unset (i : Nat) (s : Sd) : Sd := ⟨s.e.set i none, s.g⟩
def noAl : Rv → Bool
  | .al _ => false
  | _ => true
def dTry (i : Nat) (catch_ : Nat → Option Bool) (tb ts : DS) : DS := fun D s => tb { D with ex := fun x s1 => bindO (catch_ x.k) fun b => match b with
  | true => ts { nx := fun s2 => D.nx (unset i s2), rt := fun r s2 => guardB (noAl r) (D.rt r (unset i s2)), bk := fun s2 => D.bk (unset i s2), ct := fun s2 => D.ct (unset i s2), ex := fun _ _ => False } (s1.put i (.v (.exc x.k x.d)))
  | false => D.ex x s1 } s
/-- as L2's wAs, the caught exception tracked -/
def wAsK (K : PySem.W.Frag) (c : Value) (i : Nat) (ts : TS) (Wout : WX) (D : Ends) : WX := fun cls d σ H =>
  ∃ b, PySem.W.exmOne K cls c = some b ∧ (b = true → ∀ a, H a = none → ∃ C, cls = .ref C ∧ ts { nx := fun σ' H' => D.nx (σ'.set i none) H', rt := D.rt, bk := fun σ' H' => D.bk (σ'.set i none) H', ct := fun σ' H' => D.ct (σ'.set i none) H' } (σ.set i (some (.ref a))) (upd H a (.ext (excPhi C d a)))) ∧
    (b = false → Wout cls d σ H)
section
variable {X : Cx} {pins : List (Addr × Obj)} {σ : L2.St} {H : Hp} {s : Shared}
theorem excPhi_ok {P : Program} {w : World} {H : Hp} {h : Heap} {a C : Addr} {d : Option Addr} {oe : Obj} {vs : Array Value} (ha : h.get? a = some oe) (hc : oe.cls = .ref C) (hd : oe.dict = d) (hf : oe.data = .fields vs) : ObjOk P w H h a (.ext (excPhi C d a)) :=
  ⟨⟨oe, vs, ha, hc, hd, hf⟩, ⟨_, ha⟩, fun h1 h2 ⟨o, v, q, r⟩ k => ⟨o, v, k o q, r⟩⟩
theorem Inv.suiteK (I : Inv X pins σ H s) {a C : Addr} {d : Option Addr} {oe : Obj} {vs : Array Value} (ha : s.heap.get? a = some oe) (hcl : oe.cls = .ref C) (hdi : oe.dict = d) (hd : oe.data = .fields vs) (na : H a = none) (nL : a ≠ X.env.locals) (n0 : X.s_0.heap.get? a = none) (np : ∀ p ∈ X.pn ++ pins, p.1 ≠ a) :
    Inv (X.suite a (X.pn ++ pins)) [] σ (upd H a (.ext (excPhi C d a))) s where
  ok := I.ok.suite _ _
  os := I.os
  bare := I.bare
  base := {
    keep := I.base.keep
    slot := I.base.slot
    free := fun b o e n x => by
      have hb : b ≠ a := fun z => by rw [z, n0] at e; cases e
      rw [upd_ne hb]; exact I.base.free b o e n x
    there := I.base.there
    tups := fun b xs e => by
      have q := I.base.tups b xs e
      rw [upd_ne (fun z => by rw [z, na] at q; cases q)]; exact q
    frzs := fun b o u e => by
      have q := I.base.frzs b o u e
      rw [upd_ne (fun z => by rw [z, na] at q; cases q)]; exact q
    tbls := fun b ps e => by
      obtain ⟨m, q⟩ := I.base.tbls b ps e
      exact ⟨m, by rw [upd_ne (fun z => by rw [z, na] at q; cases q)]; exact q⟩ }
  loc := I.loc
  cell := I.cell
  free := by
    show upd H a _ X.env.locals = none
    rw [upd_ne (Ne.symm nL)]; exact I.free
  freeC := fun y c e => by
    have hb : c ≠ a := fun z => by
      obtain ⟨v, o, q, r⟩ := I.cell y c e
      rw [z, ha] at q
      cases q
      rw [hd] at r
      cases r
    rw [upd_ne hb]; exact I.freeC y c e
  pin := fun p hp => by
    rw [List.append_nil] at hp
    obtain ⟨h1, h2, h3⟩ := I.pin p hp
    exact ⟨h1, by rw [upd_ne (np p hp)]; exact h2, h3⟩
  hok := fun b o e => by
    by_cases hb : b = a
    · subst hb
      rw [upd_same] at e
      cases e
      exact excPhi_ok ha hcl hdi hd
    · rw [upd_ne hb] at e
      refine (I.hok b o e).stay (fun c u _ q => q) (fun c q => ?_) fun c xs q => ?_
      · rw [upd_ne (fun z => by rw [z, na] at q; cases q)]; exact q
      · rw [upd_ne (fun z => by rw [z, na] at q; cases q)]; exact q
  len := I.len
theorem Inv.unsuiteK {a : Addr} {pn' : List (Addr × Obj)} (I : Inv (X.suite a (X.pn ++ pins)) pn' σ H s) (ok : X.Ok) : Inv X pins σ H s :=
  ⟨ok, I.os, I.bare, I.base, I.loc, I.cell, I.free, I.freeC, fun p hp => I.pin p (List.mem_append_left _ hp), I.hok, I.len⟩
end
section
variable {X : Cx} {x n : Str} {c : Value} {i : Nat} {body suite : List Stmt} {b₀ : Stmt} {np pos pos' : Pos} {tb : WX → TS} {ts : TS} {Wout : WX}
theorem ps_try_keep (hs : X.stack = X.env :: X.outer) (hf : X.env.frame = some X.env.locals) (hex : X.ex = []) (hN : X.N.Nodup) (hi : X.N[i]? = some n) (hln : X.env.kindOf n = some .local) (hc : Names X x c) (tk : Takes X Wout)
    (hb : ∀ (W : WX) (pn : List (Addr × Obj)) (xe : Value → Shared → Prop), Takes (X.tr pn xe) W → PassesOwn (model X.prog X.w) X.A X.env xe → PSs (X.tr pn xe) body (tb W))
    (hsu : ∀ (a : Addr) (pn : List (Addr × Obj)), PSs (X.suite a pn) (b₀ :: suite) ts) :
    PS X (.Try body [.ExceptHandler (some (.Name x np)) (some n) (b₀ :: suite) pos'] [] [] pos) (fun D σ H => tb (wAsK X.K c i ts Wout D) D σ H) := by
  refine ⟨fun pins s σ H D I h => ?_⟩
  have ok := I.ok
  have hfr : X.A.frames = some (X.env :: X.outer) := by rw [ok.frames, hs]
  have hloc : Loc X.env.scope n := .inl hln
  refine wpAny_Try_except ?_
  refine wpAny_mono ((hb (wAsK X.K c i ts Wout D) (X.pn ++ pins) (fun e s₁ => wpAny (model X.prog X.w) X.A (noteFrame e X.env) (fun _ s₂ => wpAny (model X.prog X.w) X.A (setFlight e none) (fun _ s₃ =>
    wpAny (model X.prog X.w) X.A (handleBy e X.env [.ExceptHandler (some (.Name x np)) (some n) (b₀ :: suite) pos']) (SP X pins D) X.xe s₃) X.xe s₂) X.xe s₁) (fun u s' xx => ?_) PassesOwn.looking).run [] s σ H D (I.toTry _) h) (fun f s1 hsp => ?_) (fun e s1 he => he)
  · -- the catch
    obtain ⟨a, B, sI, pins', σ', H', cls, d, rfl, J', nb, up, sky, na, os, ag, b, hb1, hyes, hno⟩ := xx
    have J : Inv X pins σ' H' sI := J'.ofTry ok
    have sky' : Sky B (X.env :: X.outer) a (Zc cls d) X.env.locals s'.heap := by rw [← hs]; exact sky
    show wpAny (model X.prog X.w) X.A (noteFrame (.ref a) X.env) _ _ _
    refine Sky.land Zc.steady hfr hf sky' fun h3 fl3 up3 => ?_
    have J3 : Inv X pins σ' H' { s' with heap := h3 } := J.landed nb fl3.1 (up.trans up3) os ag
    obtain ⟨oe3, vs3, he3, hz3, hd3⟩ := fl3.there
    have notFr : ∀ {h : Heap} {o : Obj} {vs : Array Value}, h.FunFrames B (X.env :: X.outer) → h.get? a = some o → o.data = .fields vs → a ∉ frs (X.env :: X.outer) := fun {h o vs} ff e dd hm => by
      obtain ⟨_, o', e', hnf⟩ := ff.mem hm
      rw [e] at e'; cases e'
      exact hnf _ dd
    have nfr := notFr fl3.2.2.1 he3 hd3
    have nL : a ≠ X.env.locals := fun z => nfr (List.mem_filterMap.mpr ⟨X.env, List.mem_cons_self, by rw [hf, z]⟩)
    have nF : a ∉ X.fs := fun hm => by
      obtain ⟨e, he, q⟩ := List.mem_filterMap.mp hm
      exact nfr (List.mem_filterMap.mpr ⟨e, List.mem_cons_of_mem _ he, q⟩)
    have nI : sI.heap.get? a = none := by
      cases q : sI.heap.get? a with
      | none => rfl
      | some o =>
        have z := nb a o q (by rw [hs]; exact nfr)
        rw [fl3.2.1] at z
        cases z
    have n0 : X.s_0.heap.get? a = none := by
      cases q : X.s_0.heap.get? a with
      | none => rfl
      | some o =>
        obtain ⟨o', z⟩ := J.base.there a o q (by rw [hex]; simp)
        rw [nI] at z
        cases z
    have npn : ∀ p ∈ X.pn ++ pins, p.1 ≠ a := fun p hp z => by
      obtain ⟨q, _⟩ := J.pin p hp
      rw [z, nI] at q
      cases q
    have S3 := J3.suite he3 hd3 na nL nF
    refine wpAny_handleBy_cons (codeAny_handlers_test ?_) (by intro q; cases q)
    have LT : PySem.W.Looks (model X.prog X.w) h3 (typeOf (.ref a)) cls := fun A Q E s k q => wpAny_typeOf_ref (k _ _ he3) (by rw [hz3.1]; exact q)
    have LM := PySem.W.exm_one (M := model X.prog X.w) (J3.kIn) LT hb1
    have test : ∀ {Q : Value → Shared → Prop} {E : Value → Shared → Prop}, Q c { s' with heap := h3 } → wpAny (model X.prog X.w) (X.A.mark (some (.ref a))) (eval (.Name x np) X.env) Q E { s' with heap := h3 } := fun {Q E} q => by
      obtain ⟨hg, hdbg, hm | ⟨hm, hv, hnn⟩⟩ := hc
      · exact ld_glob (X := X.suite a ((a, oe3) :: (X.pn ++ pins))) S3 hg hm q hdbg
      · exact ld_blt (X := X.suite a ((a, oe3) :: (X.pn ++ pins))) S3 hg hm hv q hnn hdbg
    refine test (LM.here ?_)
    cases b with
    | true =>
      refine codeAny_handlers_suite_as ?_
      refine HandSPX.lands_againZ fl3 fun h4 fl4 up4 => ?_
      have J4 : Inv X pins σ' H' { s' with heap := h4 } := J.landed nb fl4.1 ((up.trans up3).trans up4) os ag
      obtain ⟨oe4, vs4, he4, hz4, hd4⟩ := fl4.there
      obtain ⟨C, ec, hyes⟩ := hyes rfl a na
      have S4 := Inv.suiteK J4 he4 (hz4.1.trans ec) hz4.2 hd4 na nL n0 npn
      refine store_ok (X := X.suite a (X.pn ++ pins)) (v := .ref a) S4 hN hi hloc rfl (fun s5 S5 => ?_) (.inr hln)
      refine wpAny_mono ((hsu a (X.pn ++ pins)).run [] s5 _ _ _ S5 hyes) (fun f s6 hsp => ?_) (fun _ _ z => False.elim z)
      have end_ : ∀ {σ6 : L2.St} {H6 : Hp} {Q : Shared → Prop}, Inv (X.suite a (X.pn ++ pins)) [] σ6 H6 s6 → (∀ s7, Inv X pins (σ6.set i none) H6 s7 → Q s7) →
          wpAny (model X.prog X.w) X.A (do bindName X.env n .none; unbindBehindTheSuite X.env n pos') (fun _ s7 => Q s7) X.xe s6 := fun {σ6 H6 Q} S6 hq => gone_ok (Inv.unsuiteK S6 ok) hN hi hln hq
      cases f with
      | next =>
        obtain ⟨σ6, H6, S6, q6⟩ := hsp
        exact end_ S6 fun s7 J7 => ⟨_, _, J7, q6⟩
      | brk =>
        obtain ⟨σ6, H6, S6, q6⟩ := hsp
        exact end_ S6 fun s7 J7 => ⟨_, _, J7, q6⟩
      | cont =>
        obtain ⟨σ6, H6, S6, q6⟩ := hsp
        exact end_ S6 fun s7 J7 => ⟨_, _, J7, q6⟩
      | ret u =>
        obtain ⟨v6, σ6, H6, S6, r6, q6⟩ := hsp
        exact end_ S6 fun s7 J7 => ⟨_, _, _, J7, r6, q6⟩
    | false =>
      show wpAny _ X.A (handleBy (.ref a) X.env []) _ _ _
      refine wpAny_handleBy_nil ?_
      obtain ⟨k1, k2, k3, oe, vs, T, oT, ts', he, hz, hd, h1, hr⟩ := id fl3
      unfold PySem.passOn
      refine wpAny_bind (wpAny_field he hd h1 ?_)
      rw [if_neg (show ¬ ((Value.ref T == Value.none) = true) from by simp)]
      have fin : wpAny (model X.prog X.w) X.A (setFlight (.ref a) X.env.frame) (fun _ s4 => wpAny (model X.prog X.w) X.A (throw (.ref a) : Sem Flow) (SP X pins D) X.xe s4) X.xe { s' with heap := h3 } := by
        rw [hf]
        refine HandSPX.setFlight_upZ fl3 fun h4 hh4 up4 => wpAny_throw (tk _ _ ?_)
        exact ⟨a, B, sI, pins, σ', H', cls, d, rfl, J, nb, (up.trans up3).trans up4, .inr (.inr (by rw [hs]; exact hh4)), na, os, ag, hno rfl⟩
      first
        | exact wpAny_bind (wpAny_pure (wpAny_bind fin))
        | exact wpAny_bind fin
  · cases f with
    | next =>
      obtain ⟨σ', H', J', q⟩ := hsp
      exact wpAny_execs_nil ⟨σ', H', J'.ofTry ok, q⟩
    | brk =>
      obtain ⟨σ', H', J', q⟩ := hsp
      exact ⟨σ', H', J'.ofTry ok, q⟩
    | cont =>
      obtain ⟨σ', H', J', q⟩ := hsp
      exact ⟨σ', H', J'.ofTry ok, q⟩
    | ret u =>
      obtain ⟨v, σ', H', J', r, q⟩ := hsp
      exact ⟨v, σ', H', J'.ofTry ok, r, q⟩
end
end DL
namespace DL
open PySem PySem.Spec PyProof.Rows L2
section
variable {G : GT} {W : WX} {ow : OW} {H H0 : Hp} {σ : L2.St} {s : Sd}
theorem ER.unset (E : ER G ow H σ s) (i : Nat) : ER G ow H (σ.set i none) (DL.unset i s) where
  len := by
    show (σ.set i none).length = (s.e.set i none).length
    rw [List.length_set, List.length_set, E.len]
  sl := fun j sv e => by
    have e : (s.e.set i none)[j]? = some (some sv) := e
    have hj : i ≠ j := fun z => by
      subst z
      by_cases hl : i < s.e.length
      · rw [List.getElem?_set_self hl] at e
        cases e
      · rw [List.getElem?_eq_none (by simpa using hl)] at e
        cases e
    rw [List.getElem?_set_ne hj] at e
    obtain ⟨v, h1, h2⟩ := E.sl j sv e
    exact ⟨v, by rw [List.getElem?_set_ne hj]; exact h1, h2⟩
  gr := E.gr
theorem RepR.set {r : Rv} {v : V} {i : Nat} {y : Option V} (n : noAl r = true) (h : RepR G ow H H0 σ r v) : RepR G ow H H0 (σ.set i y) r v := by
  cases r with
  | al _ => cases n
  | _ => exact h
end
section
variable {G : GT} {W : WX} {X : Cx} {x n : Str} {c : Value} {body suite : List Stmt} {b₀ : Stmt} {np pos pos' : Pos} {tb ts : DS} {catch_ : Nat → Option Bool}
theorem pds_try (i : Nat) (hs : X.stack = X.env :: X.outer) (hf : X.env.frame = some X.env.locals) (hex : X.ex = []) (hN : X.N.Nodup) (hc : Names X x c) (hcat : ∀ k b, catch_ k = some b → PySem.W.exmOne X.K (.ref (G k)) c = some b) (tk : Takes X W)
    (hb : ∀ (W' : WX) (pn : List (Addr × Obj)) (xe : Value → Shared → Prop), Takes (X.tr pn xe) W' → PassesOwn (model X.prog X.w) X.A X.env xe → PDSs G (X.tr pn xe) W' body tb)
    (hsu : ∀ (a : Addr) (pn : List (Addr × Obj)), PDSs G (X.suite a pn) (fun _ _ _ _ => False) (b₀ :: suite) ts) (hi : X.N[i]? = some n := by rfl) (hln : X.env.kindOf n = some .local := by rfl) :
    PDS G X W (.Try body [.ExceptHandler (some (.Name x np)) (some n) (b₀ :: suite) pos'] [] [] pos) (dTry i catch_ tb ts) :=
  ⟨PS.wk (ps_try_keep (tb := fun W' => liftS G W' tb) (ts := liftS G (fun _ _ _ _ => False) ts) hs hf hex hN hi hln hc tk (fun W' pn xe t p => (hb W' pn xe t p).ps) (fun a pn => (hsu a pn).ps)) fun D σ H _ h => by
    obtain ⟨ow, s, Dd, E, q, L⟩ := h
    refine ⟨ow, s, _, E, q, ⟨L.nx, L.rt, L.bk, L.ct, fun x s' qx c' d σ' H' ow' e' E' RX => ?_⟩⟩
    obtain ⟨b, hcb, qx⟩ := bindO_some qx
    obtain ⟨ec, da, _, v, ed, od, hd, R⟩ := id RX
    subst ec
    subst ed
    refine ⟨b, hcat _ _ hcb, fun hbt a na => ⟨G x.k, rfl, ?_⟩, fun hbf => ?_⟩
    · subst hbt
      have e3 : Ext ow' H' (ow1 ow' a none) (upd H' a (.ext (excPhi (G x.k) (some da) a))) := Ext.new na
      have nd : da ≠ a := fun z => by rw [z, na] at hd; cases hd
      refine ⟨_, _, _, (E'.ext_new (o := .ext (excPhi (G x.k) (some da) a)) na (w := none) rfl).set (i := i) (v := .ref a) (sv := .v (.exc x.k x.d)) ?_, qx, ?_⟩
      · show Rep _ _ _ (.exc x.k x.d) (.ref a)
        rw [Rep]
        exact ⟨a, v, rfl, ow1_same, .inl ⟨da, (), upd_same, by rw [ow1_ne nd]; exact od, by rw [upd_ne nd]; exact hd⟩, Rep.ext e3 _ _ R⟩
      · have ee := e'.trans e3
        exact ⟨fun s2 q2 σ2 H2 ow2 e2 E2 => L.nx _ q2 _ _ _ (ee.trans e2) (E2.unset i), fun r s2 q2 v2 σ2 H2 ow2 e2 E2 R2 => by
            obtain ⟨g, q2⟩ := guardB_and q2
            exact L.rt _ _ q2 _ _ _ _ (ee.trans e2) (E2.unset i) ((R2.set (i := i) g).from ee), fun s2 q2 σ2 H2 ow2 e2 E2 => L.bk _ q2 _ _ _ (ee.trans e2) (E2.unset i), fun s2 q2 σ2 H2 ow2 e2 E2 => L.ct _ q2 _ _ _ (ee.trans e2) (E2.unset i), fun _ _ z => z.elim⟩
    · subst hbf
      exact L.ex x s' qx _ _ σ' H' ow' e' E' RX⟩

/-! ### e.place, e an exception that is held -/
def gFld (f : Str) : D → Option Rv
  | .exc k d => ifB (xfN k == f) (some (.v d))
  | _ => none
/-- what the walk asks of each own class -/
structure XsT (G : GT) (K : PySem.W.Frag) (k : Nat) : Prop where
  hd : PySem.W.hasDictIn K (G k) = true
  no : PySem.W.findIn K (.ref (G k)) (xfN k) = some none
  ga : PySem.W.findIn K (.ref (G k)) "__getattribute__" = some (some (.builtin "BaseException.__getattribute__"))
  gg : PySem.W.findIn K (.ref (G k)) "__getattr__" = some none
  ex : PySem.W.subIn K (.ref (G k)) (.type "BaseException") = some true
theorem pd_xfld {e : Expr} {te : DE} {f : Str} {is : List Nat} (T : ∀ k ∈ is, XsT G X.K k) (he : PD G X W e te) (hb : attributeBase e f X.env (eval e X.env) = eval e X.env := by rfl) :
    PD G X W (.Attribute e f pos) (fun s Q E => te s (fun r s1 => bindO (view s1 r) fun d => match d with
      | .exc k d' => guardB (is.contains k && xfN k == f && k != 8) (Q (.v d') s1)
      | _ => False) E) := by
  refine ⟨⟨fun pins s σ H Q I h => ?_⟩⟩
  obtain ⟨ow, sd, Qd, Ed, E, t, hQ, hE⟩ := h
  have h2 : liftE G W te σ H (fun v H1 => ∃ (k : Nat) (d' : D) (s1 : Sd) (ow1 : OW), Ext ow H ow1 H1 ∧ ER G ow1 H1 σ s1 ∧ Rep G H1 ow1 (.exc k d') v ∧ is.contains k = true ∧ xfN k = f ∧ k ≠ 8 ∧ Qd (.v d') s1) := by
    refine ⟨ow, sd, _, Ed, E, t, fun r s1 q1 v H1 ow1 e1 E1 R1 => ?_, hE⟩
    obtain ⟨d, hd, q1⟩ := bindO_some q1
    have V1 := view_ok E1 R1 hd
    cases d with
    | exc k d' =>
      obtain ⟨g, q1⟩ := guardB_and q1
      obtain ⟨g, g3⟩ := Bool.and_eq_true_iff.mp g
      obtain ⟨g1, g2⟩ := Bool.and_eq_true_iff.mp g
      exact ⟨k, d', s1, ow1, e1, E1, V1, g1, beq_iff_eq.mp g2, by simpa using g3, q1⟩
    | _ => exact q1.elim
  refine attr_of hb (thn (he.pe.run pins s σ H _ I h2) fun u s1 hh => ?_)
  obtain ⟨v, H1, I1, rx, k, d', sd1, ow1, e1, E1, R1, g1, g2, g3, q1⟩ := hh
  rw [Rep] at R1
  obtain ⟨a, y, rfl, oa, t2, R2⟩ := R1
  obtain rfl : u = Value.ref a := rx
  have TT := T k (by simpa using g1)
  subst g2
  rcases t2 with ⟨dx, _, h1, h2, h3⟩ | ⟨h1, h2, h3⟩
  · have z : ObjOk X.prog X.w H1 s1.heap a (.ext (excPhi (G k) (some dx) a)) := I1.hok a _ h1
    obtain ⟨oe, vs, ha, hc, hdi, hf⟩ := z.1
    have hx : ObjOk X.prog X.w H1 s1.heap dx (.xd [(xfN k, y)]) := I1.hok dx _ h3
    obtain ⟨mA, hns, hr⟩ := hx
    obtain ⟨od, ho, hl⟩ := lookIn_ns hns
    have l : List.lookup (xfN k) [(xfN k, y)] = some y := by simp [List.lookup]
    obtain ⟨u, hu, ru⟩ := RelO.some_of (v := y) (o := mA (xfN k)) (by rw [← l]; exact hr _)
    have J : PySem.W.InstAt s1.heap a oe (G k) (some od) := ⟨ha, hc, by unfold PySem.W.notCls; rw [hf] <;> rfl, by rw [hdi]; exact ho⟩
    exact HandSPX.exc_get I1.kIn J TT.ga TT.gg TT.ex (PySem.W.findObj_own TT.hd TT.no rfl (by rw [hl, hu])) (handed_of ru) ⟨y, H1, I1.tok _, ru, hQ _ _ q1 _ _ _ e1 E1 R2⟩
  · exact absurd h3 g3

/-! ### isinstance(e, C), e an exception that is held, C an own class -/
structure XiT (G : GT) (K : PySem.W.Frag) (k : Nat) : Prop where
  cl : (PySem.W.clsIn K (G k)).isSome = true
  ga : PySem.W.findIn K (.ref (G k)) "__getattribute__" = some (some (.builtin "BaseException.__getattribute__"))
  gg : PySem.W.findIn K (.ref (G k)) "__getattr__" = some none
  ex : PySem.W.subIn K (.ref (G k)) (.type "BaseException") = some true
  ca : PySem.W.findIn K (.ref (G k)) "__class__" = some (some (.builtin "object.__class__"))
  hn : PySem.W.specialIn K (.builtin "object.__class__") "__get__" = some (some (.builtin "getset_descriptor.__get__"))
  tk : PySem.W.takesIn K (.builtin "object.__class__") = some true
  mo : PySem.W.mroIn K (G k) (.type "object") = some true
def rIsC (G : GT) (K : PySem.W.Frag) (C : Value) (c : V) : List V → Hp → VK → Prop := fun xs H Q => ∃ (a : Addr) (k : Nat) (y : V) (ow : OW) (b : Bool), xs = [.ref a, c] ∧ ExcAt G H ow a k y ∧ XiT G K k ∧ PySem.W.kitOne K (.ref (G k)) C = some b ∧ Q (.bl b) H
theorem call_isC {C : Value} {c : V} (hu : ClsV c C) : CallR X (.builtin "isinstance") (rIsC G X.K C c) := by
  intro pins s σ H xs us Q I r h
  obtain ⟨a, k, y, ow, b, rfl, t, T, e, q⟩ := h
  obtain ⟨u1, u2, rfl, r1, r2⟩ := vals2 r
  have e2 := hu.eq r2
  subst e2
  cases (show u1 = Value.ref a from r1)
  have key : ∃ od d oe, H a = some (.ext (excPhi (G k) d a)) ∧ PySem.W.InstAt s.heap a oe (G k) od := by
    rcases t with ⟨dx, _, h1, h2, h3⟩ | ⟨h1, h2, h3⟩
    · have z : ObjOk X.prog X.w H s.heap a (.ext (excPhi (G k) (some dx) a)) := I.hok a _ h1
      obtain ⟨oe, vs, ha, hc, hdi, hf⟩ := z.1
      have hx : ObjOk X.prog X.w H s.heap dx (.xd [(xfN k, y)]) := I.hok dx _ h3
      obtain ⟨mA, hns, hr⟩ := hx
      obtain ⟨od, ho, hl⟩ := lookIn_ns hns
      exact ⟨some od, _, oe, h1, ha, hc, by unfold PySem.W.notCls; rw [hf] <;> rfl, by rw [hdi]; exact ho⟩
    · have z : ObjOk X.prog X.w H s.heap a (.ext (excPhi (G k) none a)) := I.hok a _ h1
      obtain ⟨oe, vs, ha, hc, hdi, hf⟩ := z.1
      exact ⟨none, _, oe, h1, ha, hc, by unfold PySem.W.notCls; rw [hf] <;> rfl, by rw [hdi]; trivial⟩
  obtain ⟨od, d, oe, h1, J⟩ := key
  exact PySem.W.kia_one (PySem.W.kitx_exc T.cl T.ga T.gg T.ex T.ca T.hn T.tk T.mo) I.kIn J e (fun z => nomatch z) fun tk => ⟨.bl b, H, I.tok tk, rfl, q⟩
def gIsC (g : Nat → Option Bool) : D → Option Bool
  | .exc k _ => g k
  | _ => none
theorem pd_isC {a b : Expr} {ta : DE} {p pos : Pos} {C : Addr} {g : Nat → Option Bool} (hc : PE X b (tC (.ref C))) (hT : ∀ k y, g k = some y → XiT G X.K k ∧ PySem.W.kitOne X.K (.ref (G k)) (.ref C) = some y) (hg : Gl X "isinstance") (hm : X.mg "isinstance" = none) (ha : PD G X W a ta)
    (he : starEach [a, b] X.env = (false, eval a X.env) :: starEach [b] X.env := by rfl) (he2 : starEach [b] X.env = (false, eval b X.env) :: starEach [] X.env := by rfl)
    (hpl : (backTo pos (starEach [b] X.env)).any (·.1) = false := by rfl) : PD G X W (.Call (.Name "isinstance" p) [a, b] [] pos) (dIsT (gIsC g) ta) :=
  ⟨PE.wk (pe_callB (call_isC (G := G) (.own C)) hg hm (by decide +kernel) (pa_cons ha.pe (pa_cons hc pa_nil he2) he) (by decide) (by decide) he hpl) fun σ H Q _ h => by
    obtain ⟨ow, s, Qd, Ed, E, t, hQ, hE⟩ := h
    refine ⟨ow, s, _, Ed, E, t, fun r s1 q0 v H1 ow1 e1 E1 R1 => ?_, hE⟩
    obtain ⟨d, hd, q2⟩ := bindO_some q0
    obtain ⟨bb, hb, q3⟩ := bindO_some q2
    have V1 := view_ok E1 R1 hd
    cases d with
    | exc k d' =>
      have V1 : Rep G H1 ow1 (.exc k d') v := V1
      rw [Rep] at V1
      obtain ⟨a', y, rfl, oa, t2, R2⟩ := V1
      obtain ⟨T, h2⟩ := hT k bb hb
      exact ⟨a', k, y, ow1, bb, rfl, t2, T, h2, hQ _ _ q3 _ _ _ e1 E1 (by rw [RepR, Rep])⟩
    | _ => cases hb⟩
end
end DL
namespace DL
open PySem PySem.Spec PyProof.Rows L2

/-! ### xs.count(k) of ints -/
def intsD : List D → Option (List Int)
  | [] => some []
  | .int i :: l => Option.map (fun m => i :: m) (intsD l)
  | _ :: _ => none
section
variable {G : GT} {ow : OW} {H : Hp}
theorem intsD_rep : ∀ {l : List D} {xs : List V} {ns : List Int}, RepL G H ow l xs → intsD l = some ns → xs = ns.map V.int
  | [], xs, ns, r, h => by
    rw [RepL] at r
    cases h
    exact r
  | d :: l, xs, ns, r, h => by
    cases d with
    | int i =>
      rw [RepL] at r
      obtain ⟨x, q, rfl, r1, r2⟩ := r
      obtain ⟨ms, h1, rfl⟩ := Option.map_eq_some_iff.mp (show Option.map (fun m => i :: m) (intsD l) = some ns from h)
      rw [Rep] at r1
      subst r1
      rw [intsD_rep r2 h1]
      rfl
    | _ => cases h
end
theorem cnt_ints : ∀ {ns : List Int} {us : List Value} {k : Int}, Vals (ns.map V.int) us → us.countP (fun v => match v with | .int i _ => i == k | _ => false) = ns.count k
  | [], us, k, r => by
    rw [List.map_nil] at r
    cases r
    rfl
  | n :: ns, us, k, r => by
    rw [List.map_cons] at r
    cases r with
    | cons r1 r2 =>
      obtain ⟨t, rfl⟩ := r1
      rw [List.countP_cons, List.count_cons, cnt_ints r2]
theorem cnt_mem : ∀ {ns : List Int} {us : List Value}, Vals (ns.map V.int) us → ∀ y ∈ us, ∃ i t, y = .int i t
  | [], us, r, y, h => by
    rw [List.map_nil] at r
    cases r
    cases h
  | n :: ns, us, r, y, h => by
    rw [List.map_cons] at r
    cases r with
    | cons r1 r2 =>
      obtain ⟨t, rfl⟩ := r1
      rcases List.mem_cons.mp h with rfl | h
      · exact ⟨_, _, rfl⟩
      · exact cnt_mem r2 y h
def CntV (K : PySem.W.Frag) (x : V) (H : Hp) (ns : List Int) : Prop := ∃ a, x = .ref a ∧ (H a = some (.lst (ns.map V.int)) ∨ H a = some (.tup (ns.map V.int)))
def cntH (T : Option Obj) (xs : List V) : HO := match T with
  | none => .lst xs
  | some o => .frz o (.tup xs)
def CntO (T : Option Obj) : Prop := ∀ o, T = some o → o.dict = none
def tCnt (K : PySem.W.Frag) (to : TE) (ta : TA) : TE := fun σ H Q => to σ H fun x H1 => ∃ T : Option Obj, CntO T ∧ (∃ a xs, x = .ref a ∧ H1 a = some (cntH T xs)) ∧ ta σ H1 fun vs H2 => ∃ (a : Addr) (k : Int) (ns : List Int), x = .ref a ∧ vs = [.int k] ∧ H2 a = some (cntH T (ns.map V.int)) ∧ Q (.int (ns.count k : Nat)) H2
section
variable {X : Cx} {o e : Expr} {to : TE} {ta : TA} {apos cpos : Pos}
theorem pe_cnt (ho : PE X o to) (ha : PA X [e] ta) (hbase : attributeBase o "count" X.env (eval o X.env) = eval o X.env := by rfl)
    (hfew : ((backTo cpos (starEach [e] X.env)).all (fun x => !x.1) && (backToKw cpos (keywordEach [] X.env)).all (fun x => x.1.isSome) && decide ([e].length + ([] : List Keyword).length + (if ([] : List Keyword).isEmpty then 0 else 1) < 30)) = true := by rfl)
    (hline : (apos.endLine == cpos.line) = true := by rfl) (hs : starEach [e] X.env = (false, eval e X.env) :: starEach [] X.env := by rfl) (hplain : (backTo cpos (starEach [] X.env)).any (·.1) = false := by rfl) : PE X (.Call (.Attribute o "count" apos) [e] [] cpos) (tCnt X.K to ta) := by
  refine ⟨fun pins s σ H Q I h => ?_⟩
  refine wpAny_Call_method_late hbase hfew hline rfl (thn (ho.run pins s σ H _ I h) fun v s1 ⟨x, H1, I1, r1, T, hT, ⟨a, xs, ex, ea⟩, q1⟩ => ?_)
  subst ex
  obtain rfl : v = Value.ref a := r1
  have hA := ha.run cpos pins s1 σ H1 _ I1 q1
  rw [hs] at hA
  cases T with
  | none =>
    obtain ⟨z, its, n, r, el, e1⟩ := I1.lstM ea
    refine ⟨"list", "list.count", F.plainAttrs_list, F.slot_list_count, F.type_list_count, ⟨_, e1, rfl⟩, fun b e => ?_, ?_⟩
    · cases e
      exact ⟨_, e1, rfl⟩
    rw [hs]
    refine Calls.callWith_builtin (by show (false || (backTo cpos (starEach [] X.env)).any (·.1)) = false; rw [hplain] <;> rfl) (Calls.evalArgs_plain ?_)
    refine thn hA fun us s2 ⟨vs, H2, I2, r2, a', k, ns, ex, ev, ea2, q⟩ => ?_
    cases ex
    subst ev
    obtain ⟨u, rfl, ru⟩ := r2.one
    obtain ⟨tk, rfl⟩ := ru
    obtain ⟨z, its, n, r, el, e2⟩ := I2.lstM ea2
    refine call_meets F.slot_list_count ⟨_, e2, rfl⟩ F.entry_list_count (F.args_list_count_2 _ _) (SeqAt.list_countAt a its.toArray n none #[] (.int k tk) (fun v => match v with | .int i _ => i == k | _ => false)) ⟨e2, fun y hy => ?_, ?_⟩
    · obtain ⟨i, t, rfl⟩ := cnt_mem r y (by simpa using hy)
      exact SeqAt.EqAt.int_int i t k tk
    · rw [List.toList_toArray, cnt_ints r]
      exact ⟨.int (ns.count k : Nat), H2, I2.tok _, ⟨_, rfl⟩, q⟩
  | some ob =>
    have hdn := hT ob rfl
    obtain ⟨e1, z, its, r, ob', e1', c1, n', c2⟩ := (show ObjOk X.prog X.w H1 s1.heap a (.frz ob (.tup xs)) from I1.hok a _ ea)
    rw [e1] at e1'
    cases e1'
    refine ⟨"tuple", "tuple.count", F.plainAttrs_tuple, F.slot_tuple_count, F.type_tuple_count, ⟨_, e1, c1⟩, fun b e => ?_, ?_⟩
    · cases e
      exact ⟨_, e1, hdn⟩
    rw [hs]
    refine Calls.callWith_builtin (by show (false || (backTo cpos (starEach [] X.env)).any (·.1)) = false; rw [hplain] <;> rfl) (Calls.evalArgs_plain ?_)
    refine thn hA fun us s2 ⟨vs, H2, I2, r2, a', k, ns, ex, ev, ea2, q⟩ => ?_
    cases ex
    subst ev
    obtain ⟨u, rfl, ru⟩ := r2.one
    obtain ⟨tk, rfl⟩ := ru
    obtain ⟨e2, z, its, r, ob2, e2', c4, n, c5⟩ := (show ObjOk X.prog X.w H2 s2.heap a (.frz ob (.tup _)) from I2.hok a _ ea2)
    rw [e2] at e2'
    cases e2'
    obtain ⟨cl, di, da, sl⟩ := ob
    dsimp only at c4 c5
    subst c4
    subst c5
    refine call_meets F.slot_tuple_count ⟨_, e2, rfl⟩ F.entry_tuple_count (F.args_tuple_count_2 _ _) (SeqAt.tuple_countAt a its.toArray n di sl (.int k tk) (fun v => match v with | .int i _ => i == k | _ => false)) ⟨e2, fun y hy => ?_, ?_⟩
    · obtain ⟨i, t, rfl⟩ := cnt_mem r y (by simpa using hy)
      exact SeqAt.EqAt.int_int i t k tk
    · rw [List.toList_toArray, cnt_ints r]
      exact ⟨.int (ns.count k : Nat), H2, I2.tok _, ⟨_, rfl⟩, q⟩
def isCnt : D → Bool
  | .lst _ => true
  | .lds _ => true
  | _ => false
def dCnt (to te : DE) : DE := fun s Q E => to s (fun r0 s0 => bindO (view s0 r0) fun d0 => guardB (isCnt d0) (te s0 (fun r1 s1 => bindO (view s1 r0) fun d0' => bindO (view s1 r1) fun d1 => match d0, d0', d1 with
  | .lst _, .lst l, .int k => bindO (intsD l) fun ns => Q (.v (.int (ns.count k : Nat))) s1
  | .lds _, .lds l, .int k => bindO (intsD l) fun ns => Q (.v (.int (ns.count k : Nat))) s1
  | _, _, _ => False) E)) E
theorem pd_cnt {G : GT} {W : WX} {tdo tde : DE} (ho : PD G X W o tdo) (ha : PD G X W e tde) (hbase : attributeBase o "count" X.env (eval o X.env) = eval o X.env := by rfl) (hs : starEach [e] X.env = (false, eval e X.env) :: starEach [] X.env := by rfl)
    (hfew : ((backTo cpos (starEach [e] X.env)).all (fun x => !x.1) && (backToKw cpos (keywordEach [] X.env)).all (fun x => x.1.isSome) && decide ([e].length + ([] : List Keyword).length + (if ([] : List Keyword).isEmpty then 0 else 1) < 30)) = true := by rfl)
    (hline : (apos.endLine == cpos.line) = true := by rfl) (hplain : (backTo cpos (starEach [] X.env)).any (·.1) = false := by rfl) : PD G X W (.Call (.Attribute o "count" apos) [e] [] cpos) (dCnt tdo tde) :=
  ⟨PE.wk (pe_cnt ho.pe (pa_cons ha.pe pa_nil hs) hbase hfew hline hs hplain) fun σ H Q _ h => by
    obtain ⟨ow, s, Qd, Ed, E, t, hQ, hE⟩ := h
    refine ⟨ow, s, _, Ed, E, t, fun r0 s0 q0 v0 H1 ow1 e1 E1 R1 => ?_, hE⟩
    obtain ⟨d0, h0, q0⟩ := bindO_some q0
    obtain ⟨gc, q0⟩ := guardB_and q0
    have V1 := view_ok E1 R1 h0
    have fin : ∀ (a : Addr), v0 = .ref a → ∀ r1 s1 v1 H2 ow2, Ext ow1 H1 ow2 H2 → ER G ow2 H2 σ s1 → RepR G ow2 H2 H1 σ r1 v1 → ∀ d0' d1, view s1 r0 = some d0' → view s1 r1 = some d1 → RepV G H2 ow2 d0' (.ref a) ∧ RepV G H2 ow2 d1 v1 := fun a ea r1 s1 v1 H2 ow2 e2 E2 R2 d0' d1 h2 h3 => by
      subst ea
      exact ⟨view_ok E2 (R1.ext e2) h2, view_ok E2 R2 h3⟩
    cases d0 with
    | lst l0 =>
      obtain ⟨a, xs, rfl, t0, _⟩ := V1
      refine ⟨none, (fun _ z => nomatch z), ⟨a, xs, rfl, t0⟩, ow1, s0, _, Ed, E1, q0, fun r1 s1 q1 v1 H2 ow2 e2 E2 R2 => ?_, hE.from e1⟩
      obtain ⟨d0', h2, q1⟩ := bindO_some q1
      obtain ⟨d1, h3, q1⟩ := bindO_some q1
      obtain ⟨V2, V3⟩ := fin a rfl r1 s1 v1 H2 ow2 e2 E2 R2 d0' d1 h2 h3
      cases d0' with
      | lst l =>
        cases d1 with
        | int k =>
          obtain ⟨ns, hn, q1⟩ := bindO_some q1
          obtain ⟨a', ys, ea, t2, r2⟩ := V2
          cases ea
          have z := intsD_rep r2 hn
          subst z
          have z2 := V3.int
          subst z2
          exact ⟨a, k, ns, rfl, rfl, t2, hQ _ _ q1 _ _ _ (e1.trans e2) E2 (by rw [RepR, Rep])⟩
        | _ => exact q1.elim
      | _ => first | exact q1.elim | (cases d1 <;> exact q1.elim)
    | lds l0 =>
      obtain ⟨a, xs, rfl, ⟨on, ob, od, t0⟩, _⟩ := V1.lds
      refine ⟨some ob, fun o' z => by cases z; exact od, ⟨a, xs, rfl, t0⟩, ow1, s0, _, Ed, E1, q0, fun r1 s1 q1 v1 H2 ow2 e2 E2 R2 => ?_, hE.from e1⟩
      obtain ⟨d0', h2, q1⟩ := bindO_some q1
      obtain ⟨d1, h3, q1⟩ := bindO_some q1
      obtain ⟨V2, V3⟩ := fin a rfl r1 s1 v1 H2 ow2 e2 E2 R2 d0' d1 h2 h3
      cases d0' with
      | lds l =>
        cases d1 with
        | int k =>
          obtain ⟨ns, hn, q1⟩ := bindO_some q1
          obtain ⟨a', ys, ea, ⟨on2, ob2, od2, t2⟩, r2⟩ := V2.lds
          cases ea
          have z0 := (e2.of_none t0 on).2
          rw [t2] at z0
          cases z0
          have z := intsD_rep r2 hn
          subst z
          have z2 := V3.int
          subst z2
          exact ⟨a, k, ns, rfl, rfl, t2, hQ _ _ q1 _ _ _ (e1.trans e2) E2 (by rw [RepR, Rep])⟩
        | _ => exact q1.elim
      | _ => first | exact q1.elim | (cases d1 <;> exact q1.elim)
    | _ => cases gc⟩
end

/-! ### tuple(xs), the tuple's object known -/
section
variable {G : GT} {X : Cx} {W : WX} {K : PySem.W.Frag} {a : Expr} {ta : DE} {p pos : Pos}
theorem call_tupK : CallR X (.type "tuple") (fun xs H Q => ∃ p ys, xs = [.ref p] ∧ SqL X.K H p ys ∧ ∀ l o, H l = none → o.dict = none → Q (.ref l) (upd H l (.frz o (.tup ys)))) := by
  intro pins s σ H xs us Q I r h
  obtain ⟨p, ys, rfl, hq, q⟩ := h
  obtain ⟨u, rfl, rx⟩ := vals1 r
  cases rx
  obtain ⟨its, r', pl, hz⟩ := I.list hq
  have hlen := r'.length
  refine call_tuple_list pl.isList (fun h' kp => ?_) (by simp only [List.size_toArray] <;> omega)
  have J : Inv X pins σ H { s with heap := h' } := I.kept (t' := s.toks) kp
  have gt : (h'.push { cls := .type "tuple", data := .seq its.toArray }).get? h'.objs.size = some { cls := .type "tuple", data := .seq its.toArray } := Heap.get?_push_at rfl rfl
  have J2 : Inv X pins σ (upd H h'.objs.size (.frz { cls := .type "tuple", data := .seq its.toArray } (.tup ys))) { s with heap := h'.push { cls := .type "tuple", data := .seq its.toArray } } :=
    J.laid (t' := s.toks) (fun b o e => Heap.get?_push_of_some _ e) (Nat.le_refl _) (show ObjOk X.prog X.w _ _ _ (.frz _ (.tup ys)) from ⟨gt, hz, its, r', _, gt, rfl, _, rfl⟩)
  exact ⟨.ref h'.objs.size, _, J2, rfl, q _ _ (J.hok.fresh (Nat.le_refl _)) rfl⟩
def gTupK : D → Option Rv := fun d => match d with
  | .lst l => some (.v (.lds l))
  | .lds l => some (.v (.lds l))
  | .tup l => some (.v (.tup l))
  | _ => none
theorem cd_tupK : Cal1 G (fun xs H Q => (∃ p ys, xs = [.ref p] ∧ SqL K H p ys ∧ ∀ l o, H l = none → o.dict = none → Q (.ref l) (upd H l (.frz o (.tup ys)))) ∨ ∃ a ys, xs = [.ref a] ∧ SqT K H a ys ∧ Q (.ref a) H) gTupK := by
  intro σ s ow ow0 H H0 x d1 z Q ft E e0 v1 hz F
  unfold gTupK at hz
  split at hz
  · cases hz
    obtain ⟨a, xs, rfl, t, r⟩ := v1
    refine .inl ⟨a, xs, rfl, sqL_of t, fun l o hl od => F _ (ow1 ow l none) _ (Ext.new hl) (E.ext_new hl rfl) ?_⟩
    show Rep _ _ _ (.lds _) _
    rw [Rep]
    exact ⟨l, xs, rfl, ⟨ow1_same, o, od, upd_same⟩, RepL.ext (Ext.new hl) _ xs r⟩
  · cases hz
    obtain ⟨a, xs, rfl, t, r⟩ := v1.lds
    exact .inr ⟨a, xs, rfl, t.sq, F.pure E (by rw [Rep]; exact ⟨a, xs, rfl, t, r⟩)⟩
  · cases hz
    obtain ⟨a, xs, rfl, t, r⟩ := v1.tup
    exact .inr ⟨a, xs, rfl, t.sq, F.pure E (by rw [Rep]; exact ⟨a, xs, rfl, t, r⟩)⟩
  · cases hz
theorem pd_tupK (hg : Gl X "tuple") (hm : X.mg "tuple" = none) (ha : PD G X W a ta) (he : starEach [a] X.env = (false, eval a X.env) :: starEach [] X.env := by rfl) : PD G X W (.Call (.Name "tuple" p) [a] [] pos) (dUn gTupK ta) :=
  pd_t1 cd_tupK (CallR.or call_tupK call_tupleT) (by decide +kernel) hg hm ha (he := he)
end
end DL
namespace DL
open PySem PySem.Spec PyProof.Rows L2

/-! ### values side by side, what is owned stays owned -/
def unAl (r : Rv) (s : Sd) : Option (Rv × Sd) := match r with
  | .al i => Option.map (fun p => (Rv.v p.1, p.2)) (settle (.al i) s)
  | r => some (r, s)
def dUA : List DE → Sd → (List Rv → Sd → Prop) → DX → Prop
  | [], s, Q, _ => Q [] s
  | t :: ts, s, Q, E => t s (fun r s1 => bindO (unAl r s1) fun p => dUA ts p.2 (fun rs s2 => Q (p.1 :: rs) s2) E) E
def storeAll : List Nat → List Rv → Sd → Option Sd
  | [], [], s => some s
  | i :: is, r :: rs, s => match dStore i r s with
    | some s1 => storeAll is rs s1
    | none => none
  | _, _, _ => none
/-- names = values, side by side -/
def dPar (is : List Nat) (ts : List DE) : DS := fun D s => dUA ts s (fun rs s1 => bindO (storeAll is rs s1) D.nx) D.ex
def tmpOf : Rv → V → List Addr
  | .ol _, .ref a => [a]
  | .od _ _ _, .ref a => [a]
  | _, _ => []
def tmpsOf : List Rv → List V → List Addr
  | r :: rs, v :: vs => tmpOf r v ++ tmpsOf rs vs
  | _, _ => []
section
variable (G : GT) (ow : OW) (H H0 : Hp) (σ : L2.St)
def RepRs : List Rv → List V → Prop
  | [], vs => vs = []
  | r :: rs, vs => ∃ v q, vs = v :: q ∧ RepR G ow H H0 σ r v ∧ noAl r = true ∧ (∀ a ∈ tmpOf r v, a ∉ tmpsOf rs q) ∧ RepRs rs q
end
abbrev DU := Sd → (List Rv → Sd → Prop) → DX → Prop
def liftU (G : GT) (W : WX) (t : DU) : TA := fun σ H Q => ∃ ow s Qd Ed, ER G ow H σ s ∧ t s Qd Ed ∧
  (∀ rs s', Qd rs s' → ∀ vs H' ow', Ext ow H ow' H' → ER G ow' H' σ s' → RepRs G ow' H' H σ rs vs → Q vs H') ∧ exW G W ow H σ Ed
structure PDU (G : GT) (X : Cx) (W : WX) (es : List Expr) (ts : List DE) : Prop where
  pa : PA X es (liftU G W (dUA ts))
section
variable {G : GT} {W : WX} {ow ow' ow0 : OW} {H H' H0 Hz : Hp} {σ : L2.St} {s s' : Sd}
theorem unAl_ok (E : ER G ow H σ s) (e0 : Ext ow0 Hz ow H) {r : Rv} {v : V} (h : RepR G ow H Hz σ r v) {p : Rv × Sd} (q : unAl r s = some p) : ∃ ow', Ext ow0 Hz ow' H ∧ ER G ow' H σ p.2 ∧ RepR G ow' H Hz σ p.1 v ∧ noAl p.1 = true := by
  cases r with
  | al i =>
    obtain ⟨⟨d, s1⟩, h1, rfl⟩ := Option.map_eq_some_iff.mp q
    obtain ⟨ow1, e1, E1, R1, _⟩ := settle_ok E e0 h h1
    exact ⟨ow1, e1, E1, R1, rfl⟩
  | v d => cases q; exact ⟨ow, e0, E, h, rfl⟩
  | ol l => cases q; exact ⟨ow, e0, E, h, rfl⟩
  | od tb ks vs => cases q; exact ⟨ow, e0, E, h, rfl⟩
theorem RepR.tmp {r : Rv} {v : V} (h : RepR G ow H H0 σ r v) : ∀ a ∈ tmpOf r v, H0 a = none ∧ (H a).isSome = true ∧ ow a = some .tmp := by
  intro a ha
  cases r with
  | v d => cases v <;> cases ha
  | al i => cases v <;> cases ha
  | ol l =>
    obtain ⟨b, xs, rfl, n, o, t, q⟩ := h
    obtain rfl := List.mem_singleton.mp ha
    exact ⟨n, by rw [t]; rfl, o⟩
  | od tb ks vs =>
    obtain ⟨b, xs, rfl, n, o, t, q⟩ := h
    obtain rfl := List.mem_singleton.mp ha
    obtain ⟨u, hu⟩ := t.ex
    exact ⟨n, by rw [hu]; rfl, o⟩
theorem RepRs.tmp : ∀ {rs : List Rv} {vs : List V}, RepRs G ow H H0 σ rs vs → ∀ a ∈ tmpsOf rs vs, H0 a = none ∧ ow a = some .tmp
  | [], vs, h, a, ha => by cases vs <;> cases ha
  | r :: rs, vs, h, a, ha => by
    obtain ⟨v, q, rfl, h1, h2, h3, h4⟩ := h
    rcases List.mem_append.mp ha with z | z
    · exact ⟨(h1.tmp a z).1, (h1.tmp a z).2.2⟩
    · exact RepRs.tmp h4 a z
theorem RepRs.from {owz : OW} (e : Ext owz Hz ow0 H0) : ∀ {rs : List Rv} {vs : List V}, RepRs G ow H H0 σ rs vs → RepRs G ow H Hz σ rs vs
  | [], vs, h => h
  | r :: rs, vs, h => by
    obtain ⟨v, q, e1, h1, h2, h3, h4⟩ := h
    exact ⟨v, q, e1, h1.from e, h2, h3, RepRs.from e h4⟩
theorem RepR.loosen' {a : Addr} {i : Nat} (ha : ow a = some .tmp) {r : Rv} {v : V} (hn : a ∉ tmpOf r v) (na : noAl r = true) (h : RepR G ow H H0 σ r v) {y : Option V} {j : Nat} : RepR G (ow1 ow a (some (.slot i))) H H0 (σ.set j y) r v := by
  have L : Loosen ow (ow1 ow a (some (.slot i))) := Loosen.slotOf ⟨by rw [ha]; rfl, by rw [ha]; intro z; cases z⟩
  cases r with
  | v d => exact Rep.loosen L d v h
  | al i => cases na
  | ol l =>
    obtain ⟨b, xs, rfl, n, o, t, q⟩ := h
    exact ⟨b, xs, rfl, n, by rw [ow1_ne (fun z => hn (by rw [← z]; exact List.mem_singleton.mpr rfl))]; exact o, t, RepL.loosen L l xs q⟩
  | od tb ks vs =>
    obtain ⟨b, xs, rfl, n, o, t, q⟩ := h
    exact ⟨b, xs, rfl, n, by rw [ow1_ne (fun z => hn (by rw [← z]; exact List.mem_singleton.mpr rfl))]; exact o, t, RepL.loosen L vs xs q⟩
theorem RepRs.loosen' {a : Addr} {i j : Nat} {y : Option V} (ha : ow a = some .tmp) : ∀ {rs : List Rv} {vs : List V}, a ∉ tmpsOf rs vs → RepRs G ow H H0 σ rs vs → RepRs G (ow1 ow a (some (.slot i))) H H0 (σ.set j y) rs vs
  | [], vs, hn, h => h
  | r :: rs, vs, hn, h => by
    obtain ⟨v, q, rfl, h1, h2, h3, h4⟩ := h
    have hn1 : a ∉ tmpOf r v := fun z => hn (List.mem_append_left _ z)
    have hn2 : a ∉ tmpsOf rs q := fun z => hn (List.mem_append_right _ z)
    exact ⟨v, q, rfl, h1.loosen' ha hn1 h2, h2, h3, RepRs.loosen' ha hn2 h4⟩
theorem RepRs.set {j : Nat} {y : Option V} : ∀ {rs : List Rv} {vs : List V}, RepRs G ow H H0 σ rs vs → RepRs G ow H H0 (σ.set j y) rs vs
  | [], vs, h => h
  | r :: rs, vs, h => by
    obtain ⟨v, q, e1, h1, h2, h3, h4⟩ := h
    exact ⟨v, q, e1, h1.set h2, h2, h3, RepRs.set h4⟩
theorem storeAll_ok : ∀ {is : List Nat} {rs : List Rv} {vs : List V} {σ : L2.St} {ow : OW} {s s' : Sd}, ER G ow H σ s → Ext ow0 H0 ow H → RepRs G ow H H0 σ rs vs → storeAll is rs s = some s' → ∃ ow', Ext ow0 H0 ow' H ∧ ER G ow' H (setV σ is vs) s' ∧ vs.length = is.length
  | [], [], vs, σ, ow, s, s', E, e, h, q => by
    cases q
    have h : vs = [] := h
    subst h
    exact ⟨ow, e, E, rfl⟩
  | [], _ :: _, vs, σ, ow, s, s', E, e, h, q => by cases q
  | _ :: _, [], vs, σ, ow, s, s', E, e, h, q => by cases q
  | i :: is, r :: rs, vs, σ, ow, s, s', E, e, h, q => by
    obtain ⟨v, w, rfl, h1, h2, h3, h4⟩ := h
    cases hs : dStore i r s with
    | none => simp only [storeAll, hs] at q; cases q
    | some s1 =>
      simp only [storeAll, hs] at q
      have fin : ∀ {ow1' : OW}, Ext ow0 H0 ow1' H → ER G ow1' H (σ.set i (some v)) s1 → RepRs G ow1' H H0 (σ.set i (some v)) rs w → ∃ ow', Ext ow0 H0 ow' H ∧ ER G ow' H (setV σ (i :: is) (v :: w)) s' ∧ (v :: w).length = (i :: is).length := fun e1 E1 R1 => by
        obtain ⟨ow2, e2, E2, l2⟩ := storeAll_ok E1 e1 R1 q
        exact ⟨ow2, e2, E2, congrArg (· + 1) l2⟩
      cases r with
      | al _ => cases h2
      | v d =>
        cases hs
        exact fin e (E.set (sv := .v d) h1) h4.set
      | ol l =>
        cases hs
        obtain ⟨a, xs, rfl, n, o, t, q1⟩ := h1
        have L : Loosen ow (ow1 ow a (some (.slot i))) := Loosen.slotOf ⟨by rw [o]; rfl, by rw [o]; intro z; cases z⟩
        exact fin (e.told1 n) ((E.loosen L).set (sv := .ol l) ⟨a, xs, rfl, ow1_same, t, RepL.loosen L l xs q1⟩) (h4.loosen' o (h3 a (List.mem_singleton.mpr rfl)))
      | od tb ks vs =>
        cases hs
        obtain ⟨a, xs, rfl, n, o, t, q1⟩ := h1
        have L : Loosen ow (ow1 ow a (some (.slot i))) := Loosen.slotOf ⟨by rw [o]; rfl, by rw [o]; intro z; cases z⟩
        exact fin (e.told1 n) ((E.loosen L).set (sv := .od tb ks vs) ⟨a, xs, rfl, ow1_same, t, RepL.loosen L vs xs q1⟩) (h4.loosen' o (h3 a (List.mem_singleton.mpr rfl)))
theorem gNames_of : ∀ {is : List Nat} {vs : List V} {σ : L2.St} {Q : L2.St → Hp → Prop}, vs.length = is.length → Q (setV σ is vs) H → gNames is vs σ H Q
  | [], [], σ, Q, _, h => ⟨rfl, h⟩
  | [], _ :: _, σ, Q, l, h => by cases l
  | _ :: _, [], σ, Q, l, h => by cases l
  | i :: is, v :: vs, σ, Q, l, h => ⟨v, vs, rfl, gNames_of (σ := σ.set i (some v)) (Nat.succ.inj l) h⟩
end
section
variable {G : GT} {W : WX} {X : Cx} {e a b c : Expr} {es tgs : List Expr} {te ta tb tc : DE} {ts : List DE} {pos pt px py pz pt2 : Pos} {kt k2 : Nat} {x y z : Str}
theorem pdu_nil : PDU G X W [] [] := ⟨PA.wk pa_nil fun σ H Q _ h => by
  obtain ⟨ow, s, Qd, Ed, E, t, hQ, hE⟩ := h
  exact hQ _ _ t _ _ _ (Ext.refl _ _) E rfl⟩
theorem pdu_cons (ha : PD G X W e te) (hr : PDU G X W es ts) (hs : starEach (e :: es) X.env = (false, eval e X.env) :: starEach es X.env := by rfl) : PDU G X W (e :: es) (te :: ts) := ⟨PA.wk (pa_cons ha.pe hr.pa hs) fun σ H Q _ h => by
  obtain ⟨ow, s, Qd, Ed, E, t, hQ, hE⟩ := h
  refine ⟨ow, s, _, Ed, E, t, fun r s1 q1 v H1 owa e1 E1 R1 => ?_, hE⟩
  obtain ⟨p, hp, q1⟩ := bindO_some q1
  obtain ⟨owb, e2, E2, R2, na⟩ := unAl_ok E1 e1 R1 hp
  refine ⟨owb, p.2, _, Ed, E2, q1, fun rs s3 q3 vs H3 owc e3 E3 R3 => ?_, hE.from e2⟩
  have R2' := R2.ext e3
  refine hQ _ _ q3 _ _ _ (e2.trans e3) E3 ⟨v, vs, rfl, R2', na, fun a ha hb => ?_, R3.from e2⟩
  have z1 := (R2.tmp a ha).2.1
  have z2 := (R3.tmp a hb).1
  rw [z2] at z1
  cases z1⟩
theorem pds_par2 (i j : Nat) (hc : X.calm = true) (hN : X.N.Nodup) (ha : PDU G X W [a, b] ts) (hi : X.N[i]? = some x := by rfl) (hj : X.N[j]? = some y := by rfl) (hij : i ≠ j := by decide) (hx : X.env.scope.names.lookup x = some .local := by rfl) (hy : X.env.scope.names.lookup y = some .local := by rfl)
    (hw : swappedStores [.Tuple [.Name x px, .Name y py] kt pt] (.Tuple [a, b] k2 pt2) X.env = pure (some [x, y]) := by rfl) (hs : swapsWithSole [.Tuple [.Name x px, .Name y py] kt pt] (.Tuple [a, b] k2 pt2) pos.line X.env = pure false := by rfl) :
    PDS G X W (.Assign [.Tuple [.Name x px, .Name y py] kt pt] (.Tuple [a, b] k2 pt2) pos) (dPar [i, j] ts) :=
  ⟨PS.wk (ps_par hc hN hi hj hij hx hy ha.pa hw hs) fun D σ H _ h => by
    obtain ⟨ow, s, Dd, E, t, L⟩ := h
    refine ⟨ow, s, _, _, E, t, fun rs s1 q1 vs H1 ow1 e1 E1 R1 => ?_, L.exW σ⟩
    obtain ⟨s2, hs2, q2⟩ := bindO_some q1
    obtain ⟨ow2, e2, E2, l2⟩ := storeAll_ok E1 e1 R1 hs2
    match vs, l2 with
    | [v, w], _ => exact ⟨v, w, rfl, L.nx _ q2 _ _ _ e2 E2⟩⟩
theorem pds_par3 (i j l : Nat) (hc : X.calm = true) (hN : X.N.Nodup) (ha : PDU G X W [a, b, c] ts) (hi : X.N[i]? = some x := by rfl) (hj : X.N[j]? = some y := by rfl) (hl : X.N[l]? = some z := by rfl) (hij : i ≠ j := by decide) (hil : i ≠ l := by decide) (hjl : j ≠ l := by decide)
    (hx : X.env.scope.names.lookup x = some .local := by rfl) (hy : X.env.scope.names.lookup y = some .local := by rfl) (hz : X.env.scope.names.lookup z = some .local := by rfl)
    (hw : swappedStores [.Tuple [.Name x px, .Name y py, .Name z pz] kt pt] (.Tuple [a, b, c] k2 pt2) X.env = pure (some [x, y, z]) := by rfl) (hs : swapsWithSole [.Tuple [.Name x px, .Name y py, .Name z pz] kt pt] (.Tuple [a, b, c] k2 pt2) pos.line X.env = pure false := by rfl) :
    PDS G X W (.Assign [.Tuple [.Name x px, .Name y py, .Name z pz] kt pt] (.Tuple [a, b, c] k2 pt2) pos) (dPar [i, j, l] ts) :=
  ⟨PS.wk (ps_par3 hc hN hi hj hl hij hil hjl hx hy hz ha.pa hw hs) fun D σ H _ h => by
    obtain ⟨ow, s, Dd, E, t, L⟩ := h
    refine ⟨ow, s, _, _, E, t, fun rs s1 q1 vs H1 ow1 e1 E1 R1 => ?_, L.exW σ⟩
    obtain ⟨s2, hs2, q2⟩ := bindO_some q1
    obtain ⟨ow2, e2, E2, l2⟩ := storeAll_ok E1 e1 R1 hs2
    match vs, l2 with
    | [u, v, w], _ => exact ⟨u, v, w, rfl, L.nx _ q2 _ _ _ e2 E2⟩⟩
/-- the tuple is made, then taken apart -/
theorem pds_parN {is : List Nat} (hg : PPat X (.Tuple tgs kt pt) (.tu is)) (ha : PDU G X W es ts) (hs : swapsWithSole [.Tuple tgs kt pt] (.Tuple es k2 pt2) pos.line X.env = pure false := by rfl) (hw : swappedStores [.Tuple tgs kt pt] (.Tuple es k2 pt2) X.env = pure none := by rfl)
    (h1 : (assignEach [.Tuple tgs kt pt] X.env).map (·.2) = [assign (.Tuple tgs kt pt) X.env] := by rfl) (hf : is.length ≤ 100 := by decide) : PDS G X W (.Assign [.Tuple tgs kt pt] (.Tuple es k2 pt2) pos) (dPar is ts) :=
  ⟨PS.wk (ps_asg (pe_tup ha.pa) hg.pg hs hw h1) fun D σ H _ h => by
    obtain ⟨ow, s, Dd, E, t, L⟩ := h
    refine ⟨ow, s, _, _, E, t, fun rs s1 q1 vs H1 owa e1 E1 R1 => ?_, L.exW σ⟩
    obtain ⟨s2, hs2, q2⟩ := bindO_some q1
    obtain ⟨owb, e2, E2, l2⟩ := storeAll_ok E1 e1 R1 hs2
    refine ⟨sizeLine_100 (by rw [l2]; exact hf), fun p hp => ?_⟩
    have e3 : Ext owb H1 (ow1 owb p none) (upd H1 p (.tup vs)) := Ext.new hp
    exact ⟨p, vs, rfl, .inl (.inl upd_same), l2, gNames_of l2 (L.nx _ q2 _ _ _ (e2.trans e3) (E2.ext_new (o := .tup vs) hp (w := none) rfl))⟩⟩
/-- a, b = e -/
def dUnp (p : Pat) (te : DE) : DS := fun D s => te s (fun r s1 => bindO (settle r s1) fun q => bindO (patStore p q.1 q.2) D.nx) D.ex
theorem pds_unp {tg : Expr} {p : Pat} (hg : PPat X tg p) (he : PD G X W e te) (hs : swapsWithSole [tg] e pos.line X.env = pure false := by rfl) (hw : swappedStores [tg] e X.env = pure none := by rfl)
    (h1 : (assignEach [tg] X.env).map (·.2) = [assign tg X.env] := by rfl) : PDS G X W (.Assign [tg] e pos) (dUnp p te) :=
  ⟨PS.wk (ps_asg he.pe hg.pg hs hw h1) fun D σ H _ h => by
    obtain ⟨ow, s, Dd, E, t, L⟩ := h
    refine ⟨ow, s, _, _, E, t, fun r s1 q1 v H1 owa e1 E1 R1 => ?_, L.exW σ⟩
    obtain ⟨⟨d, s2⟩, hs2, q1⟩ := bindO_some q1
    obtain ⟨s3, hs3, q2⟩ := bindO_some q1
    obtain ⟨owb, e2, E2, R2, _⟩ := settle_ok E1 e1 R1 hs2
    exact pat_ok E2 R2 hs3 fun σ' _ E' => L.nx _ q2 _ _ _ e2 E'⟩
end
end DL
namespace DL
open PySem PySem.Spec PyProof.Rows L2

/-! ### a def of the module as it is called -/
structure Callee (G : GT) (P : Program) (w : World) (K : PySem.W.Frag) (mg : Str → Option Value) (base : Heap) (k : Nat) (x : Str) (m : Nat) (F : Den) (dds : List D) : Prop where
  ex : ∃ (f : Addr) (fd : FuncData) (us : List Value) (dvs : List V) (ps : List Str), mg x = some (.ref f) ∧ PySem.W.keepIn K (.ref f) = true ∧ Binds K fd ps us ∧ DV G dds dvs us ∧ DFn G P w K mg base k f fd ps F ∧ ps.length = m
theorem Callee.mono {G : GT} {P : Program} {w : World} {K : PySem.W.Frag} {mg : Str → Option Value} {base : Heap} {j k m : Nat} {x : Str} {F : Den} {dds : List D} (h : Callee G P w K mg base j x m F dds) (l : j ≤ k) : Callee G P w K mg base k x m F dds := by
  obtain ⟨f, fd, us, dvs, ps, h1, h2, h3, h4, h5, h6⟩ := h
  exact ⟨f, fd, us, dvs, ps, h1, h2, h3, h4, h5.mono l, h6⟩
theorem Callee.imp {G : GT} {P : Program} {w : World} {K : PySem.W.Frag} {mg : Str → Option Value} {base : Heap} {k m : Nat} {x : Str} {F F' : Den} {dds : List D} (h : Callee G P w K mg base k x m F dds) (i : ∀ ds g Q E, F' ds g Q E → F ds g Q E) : Callee G P w K mg base k x m F' dds := by
  obtain ⟨f, fd, us, dvs, ps, h1, h2, h3, h4, h5, h6⟩ := h
  exact ⟨f, fd, us, dvs, ps, h1, h2, h3, h4, h5.imp i, h6⟩
theorem callee_of {G : GT} {P : Program} {w : World} {K : PySem.W.Frag} {mg : Str → Option Value} {base : Heap} {k : Nat} {f : Addr} {x y : Str} {st : Stmt} {fd : FuncData} {N ps : List Str} {t : DS} (hm : mg y = some (.ref f)) (F : Fun K x x st f fd) (S : FnScope N ps (defScope st)) (hb : Binds K fd ps [])
    (hbody : ∀ (cdv : Value) (A : Around) (outer : List Env) (s : Shared) (H : Hp) (E : XK), Room k (A.deeper (envOfC x (defScope st) s.heap.objs.size f cdv)) → (A.deeper (envOfC x (defScope st) s.heap.objs.size f cdv)).guards = some [] →
      Takes (cxOf (L2.CX P w) P w K mg base N x (defScope st) f cdv A outer s H E) (fun c d _ H' => E c d H') →
      PDSs G (cxOf (L2.CX P w) P w K mg base N x (defScope st) f cdv A outer s H E) (fun c d _ H' => E c d H') (defBody st) t) : Callee G P w K mg base (k + 1) y ps.length (dFn N.length t) [] :=
  ⟨f, fd, [], [], ps, hm, F.kp, hb, dv0, dfn_of F S fun cdv A outer s H E hr hg tk => hbody cdv A outer s H E hr hg tk, rfl⟩
section
variable {G : GT} {X : Cx} {W : WX} {k m : Nat} {x : Str} {p pos : Pos} {e : Expr} {es : List Expr} {t : DA} {F : Den} {dds : List D}
theorem pd_callC (n : Nat) (C : Callee G X.prog X.w X.K X.mg X.base k x m F dds) (hr : Room k X.A) (hgd : X.A.guards = some []) (tk : Takes X W) (ha : PDA G X W (e :: es) t) (hg : Gl X x := by rfl) (hl : n + dds.length = m := by rfl)
    (hdb : (x == ("__debug__" : Str)) = false := by decide) (he : starEach (e :: es) X.env = (false, eval e X.env) :: starEach es X.env := by rfl) (hpl : (backTo pos (starEach es X.env)).any (·.1) = false := by rfl) :
    PD G X W (.Call (.Name x p) (e :: es) [] pos) (dCall F n dds t) := by
  obtain ⟨f, fd, us, dvs, ps, h1, h2, h3, h4, h5, h6⟩ := C.ex
  exact pd_call h5 hr hgd hg h1 h2 h3 h4 tk ha n (by rw [h6]; exact hl) hdb he hpl
end
theorem r1 {k : Nat} {A : Around} (r : Room k A) : A.units + 1 < cLine := by have := r.un; omega
theorem r64 {k : Nat} {A : Around} (r : Room k A) : A.units + 64 < cLine := by have := r.un; omega
theorem r65 {k : Nat} {A : Around} (r : Room k A) : A.units + 65 < cLine := by have := r.un; omega
/-- name op= e, ints -/
def dAug (i : Nat) (f : Int → Int → Int) (te : DE) : DS := fun D s => bindO (nthO s.e i) fun sv => match sv with
  | .v (.int a) => te s (fun r s1 => bindO (view s1 r) fun d => match d with
    | .int b => D.nx (s1.put i (.v (.int (f a b))))
    | _ => False) D.ex
  | _ => False
section
variable {G : GT} {X : Cx} {W : WX} {e : Expr} {te : DE} {pos pos' : Pos} {x : Str}
theorem pds_aug {op : Operator} {f : Int → Int → Int} (i : Nat) (ho : PIp X op (ipI f)) (hN : X.N.Nodup) (he : PD G X W e te) (hi : X.N[i]? = some x := by rfl) (hx : Loc X.env.scope x := by first | exact Or.inl rfl | exact Or.inr rfl)
    (hf : X.fn x = true ∨ X.env.scope.names.lookup x = some .local := by first | exact .inl rfl | exact .inr rfl | assumption) : PDS G X W (.AugAssign (.Name x pos') op e pos) (dAug i f te) :=
  ⟨PS.wk (ps_aug hN hi hx he.pe ho hf) fun D σ H _ h => by
    obtain ⟨ow, s, Dd, E, t, L⟩ := h
    obtain ⟨sv, hsv, t⟩ := bindO_some t
    obtain ⟨v, h1, h2⟩ := E.get hsv
    cases sv with
    | v d0 =>
      cases d0 with
      | int a =>
        have h2 : Rep G H ow (.int a) v := h2
        rw [Rep] at h2
        subst h2
        refine ⟨_, h1, ow, s, _, _, E, t, fun r s1 q1 y H1 ow1 e1 E1 R1 => ?_, L.exW σ⟩
        obtain ⟨d, hd, q1⟩ := bindO_some q1
        have V1 := view_ok E1 R1 hd
        cases d with
        | int b =>
          refine ⟨a, b, rfl, V1.int, ?_⟩
          exact L.nx _ q1 _ _ _ e1 (E1.set (sv := .v (.int (f a b))) (by show Rep _ _ _ _ _; rw [Rep]))
        | _ => exact q1.elim
      | _ => exact t.elim
    | _ => exact t.elim⟩
end
/-! ### name = [..] on one line, the name a local -/
section
variable {G : GT} {X : Cx} {W : WX} {tg iter elt : Expr} {ti : DI} {p : Pat} {te : DE} {tt : DT} {ifs : List Expr} {scope : Scope} {pos spos py : Pos} {y : Str}
theorem pds_setLc (i : Nat) (own : List (Str × Nat)) (hc : X.calm = true) (hN : X.N.Nodup) (hi : PDI G X W tg iter ti) (ok : BlkOk X.N X.env.scope scope own)
    (hg : ∀ (s : Shared) (H : Hp) (C : Addr) (cl : List (Str × Addr)) (fp : List Addr), PPat (X.blk s H scope (compEnvC scope cl C X.env) fp) tg p)
    (ht : ∀ (s : Shared) (H : Hp) (C : Addr) (cl : List (Str × Addr)) (fp : List Addr), PDTs G (X.blk s H scope (compEnvC scope cl C X.env) fp) W0 ifs tt)
    (he : ∀ (s : Shared) (H : Hp) (C : Addr) (cl : List (Str × Addr)) (fp : List Addr), PD G (X.blk s H scope (compEnvC scope cl C X.env) fp) W0 elt te)
    (hy : X.N[i]? = some y := by rfl) (hyl : X.env.scope.names.lookup y = some .local := by rfl) (hsw : swapsWith (.ListComp elt [⟨tg, iter, ifs, 0⟩] scope pos) (some (.Name y py)) spos.line X.env = pure true := by exact sw_true rfl rfl rfl rfl)
    (hs : ∀ x, foldedSetIterable iter X.env x = pure x := by intro _; rfl) (hsub : ∀ i ∈ p.slots, i ∈ own.map (·.2) := by decide) :
    PDS G X W (.Assign [.Name y py] (.ListComp elt [⟨tg, iter, ifs, 0⟩] scope pos) spos) (dSet i (dLc ti p tt te (own.map (·.2)))) :=
  ⟨PS.wk (ps_setLc hc hN hy hyl hsw hi.pi ok (fun s H C cl fp => (hg s H C cl fp).pg) (fun s H C cl fp => (ht s H C cl fp).pt) (fun s H C cl fp => PE.fitK (he s H C cl fp).pe) hs) fun D σ H _ h => by
    obtain ⟨ow, s, Dd, E, t, L⟩ := h
    refine lc_main (W := W) (K := X.K) hsub ⟨ow, s, _, _, E, t, fun r s1 q1 v H1 owa e1 E1 R1 => ?_, L.exW σ⟩
    obtain ⟨s2, hs2, q2⟩ := bindO_some q1
    obtain ⟨owb, e2, E2⟩ := store_ok1 E1 e1 R1 hs2
    exact L.nx _ q2 _ _ _ e2 E2⟩
end

/-! ### the draws of a law, told by what they may be -/
def den__law_begun : Den := fun ds g Q _ => ∃ n, ds = [.scr n] ∧ n ≤ 63 ∧ Q (.v .dr) g
def den__law_next : Den := fun ds g Q _ => ∃ n : Int, ds = [.dr, .int n] ∧ 0 < n ∧ n < 1000000 ∧ ∀ i : Int, 0 ≤ i → i < n → Q (.v (.int i)) g
end DL
namespace DL
open PySem PySem.Spec PyProof.Rows L2

/-! ### repr(x); empty dicts may lie in x -/
mutual
def okR : Nat → D → Bool
  | _, .non => true
  | _, .bl _ => true
  | _, .int _ => true
  | _, .str x => PyData.strOk x
  | n + 1, .tup l => okRL n l
  | n + 1, .lst l => okRL n l
  | n + 1, .lds l => okRL n l
  | _ + 1, .dic tb ks vs => !tb && ks.isEmpty && vs.isEmpty
  | _, _ => false
def okRL : Nat → List D → Bool
  | _, [] => true
  | n, d :: l => okR n d && okRL n l
end
theorem okR_dic {n : Nat} {tb : Bool} {ks vs : List D} (h : okR n (.dic tb ks vs) = true) : tb = false ∧ ks = [] ∧ vs = [] ∧ ∃ m, n = m + 1 := by
  cases n with
  | zero => simp [okR] at h
  | succ n =>
    simp only [okR, Bool.and_eq_true, List.isEmpty_iff, Bool.not_eq_true'] at h
    exact ⟨h.1.1, h.1.2, h.2, n, rfl⟩
mutual
theorem okR_depth : ∀ (n : Nat) (d : D), okR n d = true → (pyOf d).depth ≤ n
  | n, .non, h => by simp [pyOf, PyData.depth]
  | n, .bl a, h => by simp [pyOf, PyData.depth]
  | n, .int i, h => by simp [pyOf, PyData.depth]
  | n, .str x, h => by simp [pyOf, PyData.depth]
  | 0, .tup l, h => by simp [okR] at h
  | n + 1, .tup l, h => by
    simp only [okR] at h
    simp only [pyOf, PyData.depth]
    have := okRL_depth n l h
    omega
  | 0, .lst l, h => by simp [okR] at h
  | n + 1, .lst l, h => by
    simp only [okR] at h
    simp only [pyOf, PyData.depth]
    have := okRL_depth n l h
    omega
  | 0, .lds l, h => by simp [okR] at h
  | n + 1, .lds l, h => by
    simp only [okR] at h
    simp only [pyOf, PyData.depth]
    have := okRL_depth n l h
    omega
  | n, .dic tb ks vs, h => by
    obtain ⟨rfl, rfl, rfl, m, rfl⟩ := okR_dic h
    simp [pyOf, pyL, PyData.depth, PyData.depthKv]
  | n, .exc _ _, h => by cases n <;> simp [okR] at h
  | n, .obj _, h => by cases n <;> simp [okR] at h
  | n, .dr, h => by cases n <;> simp [okR] at h
  | n, .fn _, h => by cases n <;> simp [okR] at h
  | n, .clo _ _ _ _ _, h => by cases n <;> simp [okR] at h
  | n, .scr _, h => by cases n <;> simp [okR] at h
theorem okRL_depth : ∀ (n : Nat) (l : List D), okRL n l = true → PyData.depthAll (pyL l) ≤ n
  | n, [], h => by simp [pyL, PyData.depthAll]
  | n, d :: l, h => by
    simp only [okRL, Bool.and_eq_true] at h
    simp only [pyL, PyData.depthAll]
    have h1 := okR_depth n d h.1
    have h2 := okRL_depth n l h.2
    omega
end
/-- where sys.modules stands is a dict of the boot's -/
def SmAt (base : Heap) : Prop := ∃ o es ep, base.get? sysModules = some o ∧ o.data = .dict es ep
section
variable {G : GT} {ow : OW} {X : Cx} {pins : List (Addr × Obj)} {σ : L2.St} {H : Hp} {s : Shared}
theorem sm_ne (I : Inv X pins σ H s) (SM : SmAt X.base) {a : Addr} {o : Obj} {vs : Array Value} {n : Nat} (ho : s.heap.get? a = some o) (hd : o.data = .seq vs n) : a ≠ sysModules := by
  obtain ⟨o', es, ep, e, d⟩ := SM
  intro z
  subst z
  have q := (I.env0.bs _ _ e).1
  rw [ho] at q
  cases q
  rw [hd] at d
  cases d
mutual
theorem Rep.rds (I : Inv X pins σ H s) (SM : SmAt X.base) : ∀ (n : Nat) (d : D) (v : V) (u : Value), okR n d = true → Rep G H ow d v → RelV v u → ∃ as, Reads s.heap u (pyOf d) as ∧ sysModules ∉ as
  | _, .non, v, u, _, h, r => by
    rw [Rep] at h; subst h; cases r; rw [pyOf]
    exact ⟨_, .none, by simp⟩
  | _, .bl b, v, u, _, h, r => by
    rw [Rep] at h; subst h; cases r; rw [pyOf]
    exact ⟨_, .bool b, by simp⟩
  | _, .int i, v, u, _, h, r => by
    rw [Rep] at h; subst h; obtain ⟨t, rfl⟩ := r; rw [pyOf]
    exact ⟨_, .int i t, by simp⟩
  | _, .str i, v, u, _, h, r => by
    rw [Rep] at h; subst h; obtain ⟨t, rfl⟩ := r; rw [pyOf]
    exact ⟨_, .str i t, by simp⟩
  | 0, .tup l, v, u, k, h, r => by simp [okR] at k
  | n + 1, .tup l, v, u, k, h, r => by
    rw [Rep] at h
    obtain ⟨a, xs, rfl, t, q⟩ := h
    simp only [okR] at k
    rw [pyOf]
    cases r
    obtain ⟨its, rv, ⟨o, ho, hc, m, hd⟩, _⟩ := I.tuple t.sq
    obtain ⟨as, hr, hn⟩ := RepL.rds I SM n l xs _ k q rv
    exact ⟨_, Reads.tuple ho hc hd hr, hn⟩
  | 0, .lst l, v, u, k, h, r => by simp [okR] at k
  | n + 1, .lst l, v, u, k, h, r => by
    rw [Rep] at h
    obtain ⟨a, xs, rfl, t, q⟩ := h
    simp only [okR] at k
    rw [pyOf]
    cases r
    obtain ⟨its, rv, ⟨o, m, ho, hc, _, hd⟩, _⟩ := I.list (sqL_of t.2)
    obtain ⟨as, hr, hn⟩ := RepL.rds I SM n l xs _ k q rv
    exact ⟨_, Reads.list ho hc hd hr, fun z => (List.mem_cons.mp z).elim (fun z => sm_ne I SM ho hd z.symm) hn⟩
  | n, .dic tb ks vs, v, u, k, h, r => by
    obtain ⟨rfl, rfl, rfl, m, rfl⟩ := okR_dic k
    rw [Rep] at h
    obtain ⟨a, xs, rfl, n0, t, q⟩ := h
    cases r
    obtain ⟨l, hl, e1, e2⟩ := t
    cases l with
    | cons p l => cases e1
    | nil =>
      obtain ⟨_, hs, vs, hv, o, es, ep, ho, hx, hd, _, hp, _⟩ := I.hok _ _ hl
      cases hv
      have he : es.toList = [] := by cases hp' : es.toList with
        | nil => rfl
        | cons y ys => rw [hp'] at hp; cases hp
      have R : Reads s.heap (.ref a) (.dict []) (a :: [] ++ []) := Reads.dict (kvs := []) ho hx.1 hd (by rw [he]; exact .nil) (by rw [he]; exact .nil)
      refine ⟨_, by rw [pyOf]; exact R, ?_⟩
      intro z
      simp only [List.append_nil, List.mem_singleton] at z
      subst z
      simp at hs
  | n, .exc _ _, _, _, h, _, _ => by cases n <;> simp [okR] at h
  | n, .obj _, _, _, h, _, _ => by cases n <;> simp [okR] at h
  | n, .dr, _, _, h, _, _ => by cases n <;> simp [okR] at h
  | n, .fn _, _, _, h, _, _ => by cases n <;> simp [okR] at h
  | n, .clo _ _ _ _ _, _, _, h, _, _ => by cases n <;> simp [okR] at h
  | n, .scr _, _, _, h, _, _ => by cases n <;> simp [okR] at h
  | 0, .lds l, v, u, k, h, r => by simp [okR] at k
  | n + 1, .lds l, v, u, k, h, r => by
    rw [Rep] at h
    obtain ⟨a, xs, rfl, t, q⟩ := h
    simp only [okR] at k
    rw [pyOf]
    cases r
    obtain ⟨its, rv, ⟨o, ho, hc, m, hd⟩, _⟩ := I.tuple t.sq
    obtain ⟨as, hr, hn⟩ := RepL.rds I SM n l xs _ k q rv
    exact ⟨_, Reads.tuple ho hc hd hr, hn⟩
theorem RepL.rds (I : Inv X pins σ H s) (SM : SmAt X.base) : ∀ (n : Nat) (l : List D) (xs : List V) (us : List Value), okRL n l = true → RepL G H ow l xs → Vals xs us → ∃ as, ReadsAll s.heap us (pyL l) as ∧ sysModules ∉ as
  | _, [], _, _, _, h, r => by
    rw [RepL] at h; subst h; cases r; rw [pyL]
    exact ⟨_, .nil, by simp⟩
  | n, d :: l, _, _, k, h, r => by
    rw [RepL] at h
    obtain ⟨x, r', rfl, q1, q2⟩ := h
    simp only [okRL, Bool.and_eq_true] at k
    rw [pyL]
    cases r with
    | cons r1 r2 =>
      obtain ⟨as, h1, n1⟩ := Rep.rds I SM n d x _ k.1 q1 r1
      obtain ⟨bs, h2, n2⟩ := RepL.rds I SM n l r' _ k.2 q2 r2
      exact ⟨_, .cons h1 h2, fun z => (List.mem_append.mp z).elim n1 n2⟩
end
theorem RepV.rds (I : Inv X pins σ H s) (SM : SmAt X.base) : ∀ {n : Nat} {d : D} {v : V} {u : Value}, okR n d = true → RepV G H ow d v → RelV v u → ∃ as, Reads s.heap u (pyOf d) as ∧ sysModules ∉ as
  | n, .lst l, v, u, k, h, r => by
    obtain ⟨a, xs, rfl, t, q⟩ := h
    cases n with
    | zero => simp [okR] at k
    | succ n =>
      simp only [okR] at k
      rw [pyOf]
      cases r
      obtain ⟨its, rv, ⟨o, m, ho, hc, _, hd⟩, _⟩ := I.list (sqL_of t)
      obtain ⟨as, hr, hn⟩ := RepL.rds I SM n l xs _ k q rv
      exact ⟨_, Reads.list ho hc hd hr, fun z => (List.mem_cons.mp z).elim (fun z => sm_ne I SM ho hd z.symm) hn⟩
  | n, .dic tb ks vs, v, u, k, h, r => by
    obtain ⟨rfl, rfl, rfl, m, rfl⟩ := okR_dic k
    obtain ⟨a, xs, rfl, t, q⟩ := h
    rw [RepL] at q
    subst q
    refine Rep.rds (G := G) (ow := fun b => none) I SM (m + 1) (.dic false [] []) (.ref a) u k ?_ r
    rw [Rep]
    exact ⟨a, [], rfl, rfl, t, RepL.nil⟩
  | n, .tup _, v, u, k, h, r => Rep.rds (G := G) (ow := ow) I SM n _ v u k h r
  | n, .non, v, u, k, h, r => Rep.rds (G := G) (ow := ow) I SM n _ v u k h r
  | n, .bl _, v, u, k, h, r => Rep.rds (G := G) (ow := ow) I SM n _ v u k h r
  | n, .int _, v, u, k, h, r => Rep.rds (G := G) (ow := ow) I SM n _ v u k h r
  | n, .str _, v, u, k, h, r => Rep.rds (G := G) (ow := ow) I SM n _ v u k h r
  | n, .exc _ _, v, u, k, h, r => Rep.rds (G := G) (ow := ow) I SM n _ v u k h r
  | n, .obj _, v, u, k, h, r => Rep.rds (G := G) (ow := ow) I SM n _ v u k h r
  | n, .dr, v, u, k, h, r => Rep.rds (G := G) (ow := ow) I SM n _ v u k h r
  | n, .fn _, v, u, k, h, r => Rep.rds (G := G) (ow := ow) I SM n _ v u k h r
  | n, .clo _ _ _ _ _, v, u, k, h, r => Rep.rds (G := G) (ow := ow) I SM n _ v u k h r
  | n, .scr _, v, u, k, h, r => Rep.rds (G := G) (ow := ow) I SM n _ v u k h r
  | n, .lds _, v, u, k, h, r => Rep.rds (G := G) (ow := ow) I SM n _ v u k h r
end
def rRepr : List V → Hp → VK → Prop := fun xs H Q => ∃ G ow x d, xs = [x] ∧ RepV G H ow d x ∧ okR 60 d = true ∧ (pyOf d).showable = true ∧ (pyOf d).shown.length ≤ sizeLine ∧ Q (.str (pyOf d).shown) H
theorem call_reprD {X : Cx} (SM : SmAt X.base) (hgd : X.A.guards = some []) (hu : X.A.units + 64 < cLine) : CallR X (.builtin "repr") rRepr := by
  intro pins s σ H xs us Q I r h
  obtain ⟨G, ow, x, d, rfl, hd, ok, sh, sz, q⟩ := h
  obtain ⟨u, rfl, rx⟩ := vals1 r
  obtain ⟨as, rd, na⟩ := hd.rds I SM ok rx
  have dp := okR_depth _ _ ok
  have fin : ∀ (a : Addr), Reads s.heap (.ref a) (pyOf d) as → wpAny (model X.prog X.w) X.A (call (.builtin "repr") [.ref a]) (EP X pins σ Q) X.xe s := fun a rd =>
    repr_of_reads' rd sh (fun _ => na) hgd (by omega) (fun _ _ e => e) (fun h' t tk hk => ⟨.str (pyOf d).shown, H, I.kept hk, ⟨t, rfl⟩, q⟩) sz
  generalize pyOf d = e at rd sh sz q fin
  cases rd with
  | none => exact P.repr_of_none ⟨.str _, H, I.tok _, ⟨_, rfl⟩, q⟩
  | bool b => exact P.repr_of_bool ⟨.str _, H, I.tok _, ⟨_, rfl⟩, by cases b <;> exact q⟩
  | int i t => exact P.repr_of_int (by simpa [PyData.showable] using sh) ⟨.str _, H, I.tok _, ⟨_, rfl⟩, q⟩
  | str y t => exact P.repr_of_str ⟨.str _, H, I.tok _, ⟨_, rfl⟩, q⟩ sz
  | list a b c e => exact fin _ (.list a b c e)
  | tuple a b c e => exact fin _ (.tuple a b c e)
  | dict a b c e f => exact fin _ (.dict a b c e f)
def gRepr : D → Option Rv := fun d => ifB (okR 60 d && (pyOf d).showable && fitN (pyOf d).shown.length) (some (.v (.str (pyOf d).shown)))
theorem cd_repr {G : GT} : Cal1 G rRepr gRepr := by
  intro σ s ow ow0 H H0 x d1 z Q ft E e0 v1 hz F
  obtain ⟨g, hz⟩ := ifB_some (show ifB _ _ = some z from hz)
  cases hz
  obtain ⟨g, g3⟩ := Bool.and_eq_true_iff.mp g
  obtain ⟨g1, g2⟩ := Bool.and_eq_true_iff.mp g
  exact ⟨G, ow, x, d1, rfl, v1, g1, g2, fitN_le g3, F.str E⟩
section
variable {G : GT} {X : Cx} {W : WX} {a : Expr} {ta : DE} {p pos : Pos}
theorem pd_repr (SM : SmAt X.base) (hgd : X.A.guards = some []) (hu : X.A.units + 64 < cLine) (hg : Gl X "repr") (hm : X.mg "repr" = none) (ha : PD G X W a ta) (he : starEach [a] X.env = (false, eval a X.env) :: starEach [] X.env := by rfl) : PD G X W (.Call (.Name "repr" p) [a] [] pos) (dUn gRepr ta) :=
  pd_b1 cd_repr (call_reprD SM hgd hu) (by decide +kernel) hg hm ha (he := he)
end
end DL
namespace DL
open PySem PySem.Spec PyProof.Rows L2

/-! ### {} -/
def dDic0 (tb : Bool) : DE := fun s Q _ => Q (.od tb [] []) s
section
variable {G : GT} {X : Cx} {W : WX} {a e : Expr} {ta te : DE} {p pos : Pos}
theorem pd_dict0K : PD G X W (.Dict [] [] pos) (dDic0 false) := ⟨PE.wk pe_dnewK fun σ H Q _ h => by
  obtain ⟨ow, s, Qd, Ed, E, t, hQ, hE⟩ := h
  intro d hd
  exact hQ _ _ t _ _ (ow1 ow d (some .tmp)) (Ext.new hd) (E.ext_new (o := .dK []) hd rfl) ⟨d, [], rfl, hd, ow1_same, ⟨[], upd_same, rfl, rfl⟩, RepL.nil⟩⟩
theorem pd_dict0T : PD G X W (.Dict [] [] pos) (dDic0 true) := ⟨PE.wk pe_dnewT fun σ H Q _ h => by
  obtain ⟨ow, s, Qd, Ed, E, t, hQ, hE⟩ := h
  intro d hd
  exact hQ _ _ t _ _ (ow1 ow d (some .tmp)) (Ext.new hd) (E.ext_new (o := .dT []) hd rfl) ⟨d, [], rfl, hd, ow1_same, ⟨[], upd_same, rfl, rfl⟩, RepL.nil⟩⟩

/-! ### own exceptions in short -/
def dXf (is : List Nat) (f : Str) (te : DE) : DE := fun s Q E => te s (fun r s1 => bindO (view s1 r) fun d => match d with
  | .exc k d' => guardB (is.contains k && xfN k == f && k != 8) (Q (.v d') s1)
  | _ => False) E
theorem pd_xf {f : Str} {is : List Nat} (T : ∀ k ∈ is, XsT G X.K k) (he : PD G X W e te) (hb : attributeBase e f X.env (eval e X.env) = eval e X.env := by rfl) : PD G X W (.Attribute e f pos) (dXf is f te) := pd_xfld T he hb
/-- is exception k of the class j (8: RigError, over 0 .. 5)? -/
def isX (cs : List Nat) (j k : Nat) : Option Bool := match decide (k ∈ cs) with
  | false => none
  | true => some (match j with
    | 8 => decide (k ≤ 5) || decide (k = 8)
    | j => decide (k = j))
structure XcT (cs : List Nat) (G : GT) (K : PySem.W.Frag) (j : Nat) : Prop where
  xi : ∀ k ∈ cs, XiT G K k
  kit : ∀ k y, isX cs j k = some y → PySem.W.kitOne K (.ref (G k)) (.ref (G j)) = some y
theorem pd_isXc {cs : List Nat} {x : Str} {p2 : Pos} (j : Nat) (T : XcT cs G X.K j) (hx : X.mg x = some (.ref (G j))) (hg : Gl X "isinstance") (hm : X.mg "isinstance" = none) (hgx : Gl X x) (ha : PD G X W a ta) (hd : (x == ("__debug__" : Str)) = false := by decide)
    (he : starEach [a, .Name x p2] X.env = (false, eval a X.env) :: starEach [.Name x p2] X.env := by rfl) (he2 : starEach [.Name x p2] X.env = (false, eval (.Name x p2) X.env) :: starEach [] X.env := by rfl)
    (hpl : (backTo pos (starEach [.Name x p2] X.env)).any (·.1) = false := by rfl) : PD G X W (.Call (.Name "isinstance" p) [a, .Name x p2] [] pos) (dIsT (gIsC (isX cs j)) ta) :=
  pd_isC (pe_glob (v := .ref (G j)) hgx hx rfl hd) (fun k y h => ⟨T.xi k (by
    unfold isX at h
    split at h
    · cases h
    · rename_i q
      exact of_decide_eq_true q), T.kit k y h⟩) hg hm ha he he2 hpl
end
/-- except RigError as n -/
structure CatT (cs : List Nat) (G : GT) (K : PySem.W.Frag) (j : Nat) : Prop where
  cat_ : ∀ k b, isX cs j k = some b → PySem.W.exmOne K (.ref (G k)) (.ref (G j)) = some b
section
variable {G : GT} {W : WX} {X : Cx} {x n : Str} {body suite : List Stmt} {b₀ : Stmt} {np pos pos' : Pos} {tb ts : DS}
theorem pds_tryX {cs : List Nat} (i j : Nat) (hs : X.stack = X.env :: X.outer) (hf : X.env.frame = some X.env.locals) (hex : X.ex = []) (hN : X.N.Nodup) (hx : X.mg x = some (.ref (G j))) (T : CatT cs G X.K j) (tk : Takes X W)
    (hb : ∀ (W' : WX) (pn : List (Addr × Obj)) (xe : Value → Shared → Prop), Takes (X.tr pn xe) W' → PassesOwn (model X.prog X.w) X.A X.env xe → PDSs G (X.tr pn xe) W' body tb)
    (hsu : ∀ (a : Addr) (pn : List (Addr × Obj)), PDSs G (X.suite a pn) (fun _ _ _ _ => False) (b₀ :: suite) ts) (hg : Gl X x := by rfl) (hd : (x == ("__debug__" : Str)) = false := by decide) (hi : X.N[i]? = some n := by rfl) (hln : X.env.kindOf n = some .local := by rfl) :
    PDS G X W (.Try body [.ExceptHandler (some (.Name x np)) (some n) (b₀ :: suite) pos'] [] [] pos) (dTry i (isX cs j) tb ts) :=
  pds_try i hs hf hex hN ⟨hg, hd, .inl hx⟩ T.cat_ tk hb hsu hi hln
end
/-- the own classes of the package, as the top has made them -/
structure ExF (cs fs : List Nat) (G : GT) (P : Program) (K : PySem.W.Frag) (mg : Str → Option Value) : Prop where
  xs : ∀ k ∈ fs, XsT G K k
  xc : ∀ j ∈ cs, XcT cs G K j
  ct : CatT cs G K 8
section
variable {G : GT} {X : Cx} {W : WX} {a : Expr} {td : DE} {p pos pos2 : Pos} {x : Str} {k : Nat}
theorem pds_raiseE (kn : Nat) (T : ∃ fI B n i bm, ExT X.prog X.K (G kn) fI (xfN kn) B n i bm) (hc : X.calm = true) (tk : Takes X W) (hr : Room k X.A) (hm : X.mg x = some (.ref (G kn))) (ha : PD G X W a td) (hg : Gl X x := by rfl) (hdb : (x == ("__debug__" : Str)) = false := by decide)
    (he : starEach (a :: []) X.env = (false, eval a X.env) :: starEach [] X.env := by rfl) (hpl : (backTo pos (starEach [] X.env)).any (·.1) = false := by rfl) : PDS G X W (.Raise (some (.Call (.Name x p) [a] [] pos)) none pos2) (dRaise kn td) := by
  obtain ⟨fI, B, n, i, bm, T⟩ := T
  exact pds_raise T hc tk hr hm hg ha hdb he hpl
end
end DL
namespace DL
open PySem PySem.Spec PyProof.Rows L2

/-! ### xs[k] op= e, xs an own list of ints -/
def tGetL : V → V → Hp → VK → Prop := fun o i H Q => ∃ (a : Addr) (xs : List V) (k : Int) (x : V), o = .ref a ∧ i = .int k ∧ 0 ≤ k ∧ H a = some (.lst xs) ∧ xs[k.toNat]? = some x ∧ Q x H
theorem get_list {X : Cx} : PGet X tGetL := by
  intro pins s σ H o i ov iv Q I ro ri h
  obtain ⟨a, xs, k, x, rfl, rfl, h0, hp, hx, q⟩ := h
  cases ro
  obtain ⟨t, rfl⟩ := ri
  obtain ⟨z, its, n, r, hl, e⟩ := I.lstM hp
  obtain ⟨u, hu, ru⟩ := r.get hx
  have hk : k.toNat < xs.length := (List.getElem?_eq_some_iff.mp hx).1
  have hz : xs.length ≤ 16777216 := by rw [sizeLine_eq] at z; exact z
  exact wpAny_getItem_list ⟨_, e, rfl, n, rfl⟩ h0 (by omega) (by simpa using hu) ⟨x, H, I, ru, q⟩
def lstAt (s : Sd) (i : Nat) : Option (List D) := match nthO s.e i with
  | some (.ol l) => some l
  | _ => none
theorem lstAt_some {s : Sd} {i : Nat} {l : List D} (h : lstAt s i = some l) : nthO s.e i = some (.ol l) := by
  cases q : nthO s.e i with
  | none => simp only [lstAt, q] at h; cases h
  | some sv =>
    cases sv with
    | ol m => simp only [lstAt, q] at h; cases h; rfl
    | _ => simp only [lstAt, q] at h; cases h
def dAugIx (f : Int → Int → Int) (to ti te : DE) : DS := fun D s => to s (fun r0 s0 => bindO (alAt r0) fun i => ti s0 (fun r1 s1 => bindO (view s1 r1) fun d1 => bindO (intD d1) fun k => bindO (lstAt s1 i) fun l => bindO (l[k.toNat]?) fun x => bindO (intD x) fun a => guardB (decide (0 ≤ k))
  (te s1 (fun r2 s2 => bindO (view s2 r2) fun d2 => bindO (intD d2) fun b => bindO (lstAt s2 i) fun l2 => guardB (decide (k.toNat < l2.length)) (D.nx (s2.put i (.ol (l2.set k.toNat (.int (f a b))))))) D.ex)) D.ex) D.ex
section
variable {G : GT} {X : Cx} {W : WX} {o i e : Expr} {to ti te : DE} {pos tpos : Pos} {op : Operator} {f : Int → Int → Int}
theorem pds_augIx (hp : PIp X op (ipI f)) (ho : PD G X W o to) (hi : PD G X W i ti) (he : PD G X W e te)
    (ha : ∀ ov iv new, augStore i ov iv new = (do holding [new, ov, iv] (setItem ov iv new); release [new, ov, iv] []; pure .next) := by intros; rfl) : PDS G X W (.AugAssign (.Subscript o i tpos) op e pos) (dAugIx f to ti te) :=
  ⟨PS.wk (ps_augS ho.pe hi.pe get_list he.pe hp set_list ha) fun D σ H _ h => by
    obtain ⟨ow, s, Dd, E, t, L⟩ := h
    refine ⟨ow, s, _, _, E, t, fun r0 s0 q0 v0 H1 owa e1 E1 R1 => ?_, L.exW σ⟩
    obtain ⟨j, hj, q0⟩ := bindO_some q0
    have ej : r0 = .al j := by cases r0 <;> first | (cases hj; rfl) | cases hj
    subst ej
    refine ⟨owa, s0, _, _, E1, q0, fun r1 s1 q1 v1 H2 owb e2 E2 R2 => ?_, (L.from e1).exW σ⟩
    obtain ⟨d1, hd1, q1⟩ := bindO_some q1
    obtain ⟨k, hk, q1⟩ := bindO_some q1
    obtain ⟨l, hl, q1⟩ := bindO_some q1
    obtain ⟨x, hx, q1⟩ := bindO_some q1
    obtain ⟨a, hxa, q1⟩ := bindO_some q1
    obtain ⟨g, qq⟩ := guardB_and q1
    have g := of_decide_eq_true g
    have V1 := view_ok E2 R2 hd1
    have z1 := intD_some hk
    subst z1
    have z2 := V1.int
    subst z2
    have z3 := intD_some hxa
    subst z3
    obtain ⟨w, g1, ad, xs, rfl, o1, o2, o3⟩ := E2.get (lstAt_some hl)
    rw [show σ[j]? = some (some v0) from R1] at g1
    cases g1
    obtain ⟨y, hy, ry⟩ := o3.get hx
    rw [Rep] at ry
    subst ry
    have e12 := e1.trans e2
    refine ⟨ad, xs, k, .int a, rfl, rfl, g, o2, hy, owb, s1, _, _, E2, qq, fun r2 s2 q2 v2 H3 owc e3 E3 R3 => ?_, (L.from e12).exW σ⟩
    obtain ⟨d2, hd2, q2⟩ := bindO_some q2
    obtain ⟨b, hb, q2⟩ := bindO_some q2
    obtain ⟨l2, hl2, q2⟩ := bindO_some q2
    obtain ⟨g2, qz⟩ := guardB_and q2
    have g2 := of_decide_eq_true g2
    have z4 := intD_some hb
    subst z4
    have z5 := (view_ok E3 R3 hd2).int
    subst z5
    obtain ⟨w2, g3, ad2, xs2, e5, p1, p2, p3⟩ := E3.get (lstAt_some hl2)
    rw [show σ[j]? = some (some (V.ref ad)) from R1] at g3
    cases g3
    cases e5
    refine ⟨a, b, rfl, rfl, ad, xs2, k, k.toNat, rfl, rfl, p2, ?_, ?_⟩
    · unfold ixN
      rw [p3.length, if_pos g, if_pos (by omega)]
    · have r4 : RepL G H3 owc (l2.set k.toNat (.int (f a b))) (xs2.set k.toNat (.int (f a b))) := RepL.set (by rw [Rep]) _ _ _ p3
      exact L.nx _ qz _ _ _ ((e12.trans e3).upd_slot p1) (ol_put E3 R1 p1 r4)⟩
end
end DL
namespace DL
open PySem PySem.Spec PyProof.Rows L2
/-! ### the head: the law's promise at the heap behind the top -/
theorem law_callG {P : Program} {w : World} {K : PySem.W.Frag} {mg mb : Str → Option Value} {k : Nat} {fa a : Addr} {cs : List (Addr × Addr)} {sp : Sp} {s₁ : Shared} {vs : List Value} {ns : List Int}
    (KX : K.In s₁.heap) (hns : s₁.heap.Ns mainGlobals mg) (hb : s₁.heap.Ns builtinsNs mb) (hbb : ∀ x : Str, x ≠ "__name__" → mb x = bootBuiltins x) (hlim : s₁.heap.NoLimit) (hg : s₁.gens = #[])
    (hT : ∀ p ∈ cs, s₁.heap.get? p.2 = some { cls := .none, data := .fields #[] }) (nT : ∀ p ∈ cs, K.lookup p.2 = none) (C : ∀ p ∈ cs, PySem.W.CodeHd s₁.heap p.1 p.2)
    (hbm : ∃ (bm : Addr) (ob : Obj), mg "__builtins__" = some (.ref bm) ∧ bm ≠ builtinsNs ∧ s₁.heap.get? bm = some ob ∧ ob.cls = .type "module" ∧ ob.dict = some builtinsNs ∧ ob.data = .plain)
    (ha : s₁.heap.get? a = some { cls := .type "list", data := .seq vs.toArray }) (hi : IntsAre vs ns) (hl : ns.length ≤ sizeLine) (hr : Room k callerA)
    (hsm : SmAt s₁.heap) (F : ∀ base : Heap, K.In base → base.Ns mainGlobals mg → SmAt base → (∀ p ∈ cs, LamX.TabB base mg p.1 p.2) → ∃ (fd : FuncData) (ps : List Str), (∀ (s : Shared) (u : Value), K.In s.heap → BindsTo s fd ⟨[u], []⟩ (ps.zip [u])) ∧ FnG P w K mg base k fa fd ps sp)
    (hsp : ∀ H : Hp, (∀ b, H b = none ∨ b ∈ cs.map (·.2) ∨ ∃ o xs, H b = some (.frz o (.lst xs))) → a ∉ cs.map (·.2) → (∀ p ∈ cs, H p.2 = some (.tbl #[])) → SqL K H a (ns.map V.int) → sp [.ref a] H (fun v _ => v = .bl true) fun _ _ _ => False)
 :
    codeAny (model P w) callerA (.call (.ref fa) ⟨[.ref a], []⟩) (fun r s' => r = .ok (.ret (.bool true)) ∧ OldK s₁.heap s'.heap ∧ s'.os = s₁.os ∧ AllBare s'.gens) s₁ := by
  have rv := vals_ints hi
  have lenV := hi.length
  have isT : ∀ b : Addr, b ∈ cs.map (·.2) → s₁.heap.get? b = some { cls := .none, data := .fields #[] } := fun b hb => by
    obtain ⟨p, hp, e⟩ := List.mem_map.mp hb
    rw [← e]
    exact hT p hp
  have aT : a ∉ cs.map (·.2) := fun z => by
    have q := isT a z
    rw [ha] at q
    have z' : Data.seq vs.toArray _ = Data.fields #[] := congrArg Obj.data (Option.some.inj q)
    cases z'
  have memT : ∀ p ∈ cs, p.2 ∈ cs.map (·.2) := fun p hp => List.mem_map.mpr ⟨p, hp, rfl⟩
  have core : ∀ H : Hp, (∀ p ∈ cs, H p.2 = some (.tbl #[])) → (∀ b, H b = none ∨ b ∈ cs.map (·.2) ∨ ∃ o xs, H b = some (.frz o (.lst xs))) → SqL K H a (ns.map V.int) → HOk P w H s₁.heap → (∀ b, H b ≠ none → b = a ∨ b ∈ cs.map (·.2)) → (H a ≠ none → K.lookup a = none) →
      codeAny (model P w) callerA (.call (.ref fa) ⟨[.ref a], []⟩) (fun r s' => r = .ok (.ret (.bool true)) ∧ OldK s₁.heap s'.heap ∧ s'.os = s₁.os ∧ AllBare s'.gens) s₁ := by
    intro H hH hO hS hok hA hK
    have base_of : ∀ {b : Addr} {o : Obj}, s₁.heap.get? b = some o → H b = none → (hidT s₁.heap H).get? b = some o := fun e n => hidT_get e n
    have noD : ∀ {b : Addr} {o : Obj}, s₁.heap.get? b = some o → (∀ vs n, o.data ≠ .seq vs n) → o.data ≠ .fields #[] → H b = none := fun {b o} e h1 h2 => by
      cases q : H b with
      | none => rfl
      | some u =>
        rcases hA b (by rw [q]; simp) with e' | e'
        · rw [e', ha] at e
          cases e
          exact (h1 _ _ rfl).elim
        · rw [isT b e'] at e
          cases e
          exact (h2 rfl).elim
    have noA : ∀ {b : Addr} {o : Obj} {es : Array DictEntry} {ep : Nat}, s₁.heap.get? b = some o → o.data = .dict es ep → H b = none := fun {b o es ep} e d => by
      refine noD e (fun vs n z => ?_) fun z => ?_
      · rw [d] at z
        cases z
      · rw [d] at z
        cases z
    have nsK : ∀ {b : Addr} {m : Str → Option Value}, s₁.heap.Ns b m → (hidT s₁.heap H).Ns b m := fun {b m} ⟨o, es, ep, e, d, r⟩ => ⟨o, es, ep, base_of e (noA e d), d, r⟩
    have hKb : K.In (hidT s₁.heap H) := fun b o e => base_of (KX b o e) (by
      cases q : H b with
      | none => rfl
      | some u =>
        rcases hA b (by rw [q]; simp) with e' | e'
        · rw [e'] at e q
          rw [hK (by rw [q]; simp)] at e
          cases e
        · obtain ⟨p, hp, ep⟩ := List.mem_map.mp e'
          rw [← ep, nT p hp] at e
          cases e)
    have hM : Mod K mg (hidT s₁.heap H) := ⟨hKb, nsK hns, ⟨mb, nsK hb, hbb⟩, let ⟨mc, h1, h2⟩ := hlim; ⟨mc, nsK h1, h2⟩⟩
    have TB : ∀ p ∈ cs, LamX.TabB (hidT s₁.heap H) mg p.1 p.2 := fun p hp => by
      have hTp := hT p hp
      refine ⟨?_, ?_, fun z => ?_⟩
      · obtain ⟨o, us, file, tf, flags, tg, inF, text, tt, e1, r1, r2, r3, r4, r5, r6, r7, r8, hne⟩ := C p hp
        refine ⟨o, us, file, tf, flags, tg, inF, text, tt, base_of e1 (noD e1 (fun vs n z => ?_) fun z => ?_), r1, r2, r3, r4, r5, r6, r7, r8, hne⟩
        · rw [r2] at z
          cases z
        · rw [r2] at z
          cases z
          simp at r3
      · obtain ⟨bm, ob, b1, b2, b3, b4, b5, b6⟩ := hbm
        have nG : bm ≠ mainGlobals := fun q => by
          obtain ⟨o, es, ep, e, hd, _⟩ := hns
          rw [q, e] at b3
          cases b3
          rw [hd] at b6
          cases b6
        have nP : bm ≠ p.2 := fun q => by
          rw [q, hTp] at b3
          cases b3
          cases b6
        refine ⟨bm, ob, b1, b2, nG, nP, base_of b3 (noD b3 (fun vs n z => ?_) fun z => ?_), b4, b5, b6⟩
        · rw [b6] at z
          cases z
        · rw [b6] at z
          cases z
      · obtain ⟨o, es, ep, e, hd, _⟩ := hns
        rw [z, hTp] at e
        cases e
        cases hd
    have e0 : Env0 P w K mg (hidT s₁.heap H) callerA [] s₁ H := ⟨rfl, hM, fun b o e => of_hidT e, Nat.le_of_eq (hidT_size _ _), trivial, fun b hb => absurd (show b ∈ ([] : List Addr) from hb) (by simp), hok, .of_eq hg⟩
    have hsm' : SmAt (hidT s₁.heap H) := let ⟨o, es, ep, e, d⟩ := hsm; ⟨o, es, ep, base_of e (noA e d), d⟩
    obtain ⟨fd, ps, hbind, hF⟩ := F _ hKb (nsK hns) hsm' TB
    refine codeAny_mono (hF.run callerA [] s₁ H ⟨[.ref a], []⟩ [.ref a] [.ref a] _ _ hr rfl e0 (hbind s₁ (.ref a) KX) (.cons rfl .nil) (hsp H hO aT hH hS)) fun r s' h => ?_
    cases r with
    | error e =>
      obtain ⟨_, _, _, _, _, _, _, _, _, _, _, _, z⟩ := (show L2.CX P w [] H s₁ (fun _ _ _ => False) e s' from h)
      exact z.elim
    | ok fl =>
      cases fl with
      | next => exact False.elim h
      | brk => exact False.elim h
      | cont => exact False.elim h
      | ret u =>
        obtain ⟨v, H', os, bare, un, hok', r', q⟩ := h
        have q' : v = .bl true := q
        subst q'
        obtain rfl : u = Value.bool true := r'
        have key : ∀ b o, b ∉ cs.map (·.2) → s₁.heap.get? b = some o → s'.heap.get? b = some o := fun b o nb e => by
          cases q : H b with
          | none => exact un.keep b o e q (by intro z; exact absurd (show b ∈ ([] : List Addr) from z) (by simp)) (by simp)
          | some u =>
            rcases hO b with z | z | ⟨ob, xs, z⟩
            · rw [q] at z; cases z
            · exact absurd z nb
            · have z2 := un.frzs b ob _ z
              obtain ⟨e1, _⟩ := hok b _ z
              obtain ⟨e2, _⟩ := hok' b _ z2
              rw [e] at e1; cases e1
              exact e2
        have grown : ∀ p ∈ cs, ∃ more : Array Value, s'.heap.get? p.2 = some { cls := .none, data := .fields more } := fun p hp => by
          obtain ⟨more, z⟩ := un.tbls p.2 #[] (hH p hp)
          exact ⟨_, hok' p.2 _ z⟩
        refine ⟨rfl, ⟨fun b o e => ?_, fun b o e => ?_⟩, os, bare⟩
        · by_cases hb : b ∈ cs.map (·.2)
          · obtain ⟨p, hp, ep⟩ := List.mem_map.mp hb
            obtain ⟨more, hm⟩ := grown p hp
            rw [← ep] at e ⊢
            rw [hT p hp] at e
            cases e
            exact .inr (.inl ⟨((C p hp).tab (hT p hp)).isCodeTable, rfl, #[], more, rfl, by rw [Array.empty_append]; exact hm⟩)
          · exact .inl (key b o hb e)
        · by_cases hb : b ∈ cs.map (·.2)
          · obtain ⟨p, hp, ep⟩ := List.mem_map.mp hb
            obtain ⟨more, hm⟩ := grown p hp
            rw [← ep]
            exact ⟨_, hm⟩
          · exact ⟨o, key b o hb e⟩
  cases hk : K.lookup a with
  | some o =>
    have e := KX a o hk
    rw [ha] at e
    cases e
    refine core (fun b => if b ∈ cs.map (·.2) then some (.tbl #[]) else none) (fun p hp => if_pos (memT p hp)) (fun b => ?_) (.inr ⟨_, vs.toArray, _, hk, rfl, rfl, rfl, by rw [List.size_toArray, lenV]; exact hl, by simpa using rv⟩) (fun b u z => ?_) (fun b z => ?_) fun z => absurd (show (if a ∈ cs.map (·.2) then some (HO.tbl #[]) else none) = none from if_neg aT) z
    · by_cases hb : b ∈ cs.map (·.2)
      · exact .inr (.inl hb)
      · exact .inl (if_neg hb)
    · by_cases hb : b ∈ cs.map (·.2)
      · have z' := (if_pos hb).symm.trans z
        cases z'
        exact isT b hb
      · have z' := (if_neg hb).symm.trans z
        cases z'
    · by_cases hb : b ∈ cs.map (·.2)
      · exact .inr hb
      · exact absurd (if_neg hb) z
  | none =>
    refine core (fun b => if b = a then some (.frz { cls := .type "list", data := .seq vs.toArray } (.lst (ns.map V.int))) else if b ∈ cs.map (·.2) then some (.tbl #[]) else none) (fun p hp => (if_neg (show ¬ p.2 = a from fun z => aT (by rw [← z]; exact memT p hp))).trans (if_pos (memT p hp))) (fun b => ?_)
      (.inl (.inr ⟨{ cls := .type "list", data := .seq vs.toArray }, if_pos rfl⟩)) (fun b u z => ?_) (fun b z => ?_) fun _ => hk
    · by_cases hb : b = a
      · exact .inr (.inr ⟨_, _, if_pos hb⟩)
      · by_cases hb2 : b ∈ cs.map (·.2)
        · exact .inr (.inl hb2)
        · exact .inl ((if_neg hb).trans (if_neg hb2))
    · by_cases hb : b = a
      · have z' := (if_pos hb).symm.trans z
        cases z'
        rw [hb]
        exact ⟨ha, by rw [List.length_map]; exact hl, vs, _, rv, ha⟩
      · have z1 := (if_neg hb).symm.trans z
        by_cases hb2 : b ∈ cs.map (·.2)
        · have z' := (if_pos hb2).symm.trans z1
          cases z'
          exact isT b hb2
        · have z' := (if_neg hb2).symm.trans z1
          cases z'
    · by_cases hb : b = a
      · exact .inl hb
      · by_cases hb2 : b ∈ cs.map (·.2)
        · exact .inr hb2
        · exact absurd ((if_neg hb).trans (if_neg hb2)) z

/-- the law's own start: the script as data -/
def scrG (G : GT) (a : Addr) (m : Nat) (own : Bool) : GT := ⟨fun k => match decide (k = 1000000) with
  | true => a
  | false => match decide (k = 1000001) with
    | true => m
    | false => match decide (k = 1000002) with
      | true => if own then 1 else 0
      | false => G k, G.t⟩
open Classical in
noncomputable def lawG (K : PySem.W.Frag) (G0 : GT) (a : Addr) (m : Nat) : GT := scrG G0 a m (decide (∃ ns : List Int, ns.length = m ∧ ∀ H, SqL K H a (ns.map V.int)))
theorem lawG_a {K : PySem.W.Frag} {G0 : GT} {a : Addr} {m : Nat} : lawG K G0 a m 1000000 = a := rfl
theorem lawG_m {K : PySem.W.Frag} {G0 : GT} {a : Addr} {m : Nat} : lawG K G0 a m 1000001 = m := rfl
theorem lawG_low {K : PySem.W.Frag} {G0 : GT} {a : Addr} {m k : Nat} (h : k < 1000000) : lawG K G0 a m k = G0 k := by
  unfold lawG scrG
  simp only
  rw [decide_eq_false (by omega : ¬ k = 1000000)]
  simp only
  rw [decide_eq_false (by omega : ¬ k = 1000001)]
  simp only
  rw [decide_eq_false (by omega : ¬ k = 1000002)]
open Classical in
theorem lawG_own {K : PySem.W.Frag} {G0 : GT} {a : Addr} {m : Nat} : lawG K G0 a m 1000002 = if decide (∃ ns : List Int, ns.length = m ∧ ∀ H, SqL K H a (ns.map V.int)) = true then 1 else 0 := rfl
open Classical in
theorem lawG_scr {K : PySem.W.Frag} {G0 : GT} {a : Addr} {m : Nat} : ScrC (lawG K G0 a m) K := by
  intro h
  rw [lawG_own] at h
  split at h
  · rename_i z
    exact of_decide_eq_true z
  · cases h
theorem lawG_t {K : PySem.W.Frag} {G0 : GT} {a : Addr} {m : Nat} : (lawG K G0 a m).t = G0.t := rfl
open Classical in
theorem law_start {K : PySem.W.Frag} {G0 : GT} {n : Nat} {den : Den} {cs : List (Addr × Addr)} (h : ∀ m, m ≤ n → den [.scr m] [] (fun r _ => r = .v (.bl true)) (fun _ _ => False)) {H : Hp} {a : Addr} {ns : List Int} (hl : ns.length ≤ n)
    (hO : ∀ b, H b = none ∨ b ∈ cs.map (·.2) ∨ ∃ o xs, H b = some (.frz o (.lst xs))) (aT : a ∉ cs.map (·.2)) (hT : ∀ p ∈ cs, H p.2 = some (.tbl #[])) (hG : ∀ p ∈ G0.t, p.1 ∈ cs.map (·.2)) (hS : SqL K H a (ns.map V.int)) :
    liftF (lawG K G0 a ns.length) 1 den [.ref a] H (fun v _ => v = .bl true) (fun _ _ _ => False) := by
  refine ⟨fun b => if b ∈ cs.map (·.2) then some .tab else none, [.scr ns.length], [], _, _, fun b => ?_, rfl, ⟨fun b z => ?_, fun b n z => ?_, fun b c n z => ?_, fun p hp => ⟨if_pos (hG p hp), ?_⟩⟩, RepL.cons ?_ RepL.nil, h _ hl, fun r g' q v H' ow' e' gr R => ?_, fun _ _ z => z.elim⟩
  · show Ow.isSlot (if b ∈ cs.map (·.2) then some Ow.tab else none) = false
    split <;> rfl
  · split at z <;> cases z
  · split at z <;> cases z
  · split at z <;> cases z
  · obtain ⟨q, hq, e⟩ := List.mem_map.mp (hG p hp)
    refine ⟨#[], by rw [← e]; exact hT q hq, True.intro, fun pos cv hc => ?_⟩
    have z : codeAmong pos [] = some cv := hc
    simp [codeAmong] at z
  · rw [Rep]
    refine ⟨a, rfl, ?_⟩
    rcases hS with (z | ⟨o, z⟩) | z
    · rcases hO a with y | y | ⟨o, xs, y⟩
      · rw [z] at y; cases y
      · exact absurd y aT
      · rw [z] at y; cases y
    · exact .inl ⟨if_neg aT, o, _, z, rfl⟩
    · refine .inr ⟨rfl, rfl, ?_⟩
      rw [lawG_own, if_pos]
      exact decide_eq_true ⟨ns, rfl, fun H' => .inr z⟩
  · subst q
    have R' := R
    rw [RepR, Rep] at R'
    exact R'
/-- the code object at c, its table at P -/
def vRef (P : Addr) : Option Value → Bool
  | some (.ref p) => p == P
  | _ => false
def vStr : Value → Bool
  | .str _ _ => true
  | _ => false
def vInt : Value → Bool
  | .int _ _ => true
  | _ => false
def vBool : Value → Bool
  | .bool _ => true
  | _ => false
def vCode : Value → Bool
  | .type t => t == "code"
  | _ => false
def dFlds : Data → Option (Array Value)
  | .fields vs => some vs
  | _ => none
theorem vRef_ok {P : Addr} {v : Option Value} (h : vRef P v = true) : v = some (.ref P) := by
  unfold vRef at h
  split at h
  · rw [beq_iff_eq.mp h]
  · cases h
theorem vStr_ok {v : Value} (h : vStr v = true) : ∃ x t, v = .str x t := by
  unfold vStr at h
  split at h
  · exact ⟨_, _, rfl⟩
  · cases h
theorem vInt_ok {v : Value} (h : vInt v = true) : ∃ x t, v = .int x t := by
  unfold vInt at h
  split at h
  · exact ⟨_, _, rfl⟩
  · cases h
theorem vBool_ok {v : Value} (h : vBool v = true) : ∃ x, v = .bool x := by
  unfold vBool at h
  split at h
  · exact ⟨_, rfl⟩
  · cases h
theorem vCode_ok {v : Value} (h : vCode v = true) : v = .type "code" := by
  unfold vCode at h
  split at h
  · rw [beq_iff_eq.mp h]
  · cases h
theorem dFlds_ok {d : Data} {vs : Array Value} (h : dFlds d = some vs) : d = .fields vs := by
  unfold dFlds at h
  split at h
  · cases h; rfl
  · cases h
def vRef? : Option Value → Option Addr
  | some (.ref p) => some p
  | _ => none
theorem vRef?_ok {P : Addr} {v : Option Value} (h : vRef? v = some P) : v = some (.ref P) := by
  unfold vRef? at h
  split at h
  · cases h; rfl
  · cases h
def tabOf (K : PySem.W.Frag) (c : Addr) : Option Addr := match K.lookup c with
  | some o => (match dFlds o.data with
    | some vs => (match vCode o.cls && vStr (vs.getD 18 .none) && vInt (vs.getD 7 .none) && vBool (vs.getD 9 .none) && vInt (vs.getD 10 .none) with
      | true => vRef? vs[11]?
      | false => none)
    | none => none)
  | none => none
theorem codeHd_of {K : PySem.W.Frag} {c P : Addr} {h : Heap} (X : K.In h) (e : tabOf K c = some P) (n : K.lookup P = none) : PySem.W.CodeHd h c P := by
  unfold tabOf at e
  cases hk : K.lookup c with
  | none => rw [hk] at e; cases e
  | some o =>
    have hne : c ≠ P := fun z => by rw [z, n] at hk; cases hk
    rw [hk] at e
    simp only at e
    cases hd : dFlds o.data with
    | none => rw [hd] at e; cases e
    | some vs =>
      rw [hd] at e
      simp only at e
      cases hc : (vCode o.cls && vStr (vs.getD 18 .none) && vInt (vs.getD 7 .none) && vBool (vs.getD 9 .none) && vInt (vs.getD 10 .none)) with
      | false => rw [hc] at e; cases e
      | true =>
        rw [hc] at e
        simp only [Bool.and_eq_true] at hc
        obtain ⟨⟨⟨⟨e1, h18⟩, h7⟩, h9⟩, h10⟩ := hc
        have h11 := vRef?_ok e
        obtain ⟨file, tf, h18⟩ := vStr_ok h18
        obtain ⟨flags, tg, h7⟩ := vInt_ok h7
        obtain ⟨inF, h9⟩ := vBool_ok h9
        obtain ⟨text, tt, h10⟩ := vInt_ok h10
        refine ⟨o, vs, file, tf, flags, tg, inF, text, tt, X _ _ hk, vCode_ok e1, dFlds_ok hd, h11, ?_, h18, h7, h9, h10, hne⟩
        rw [Array.getD_eq_getD_getElem?, h11]
        rfl
/-- the goal that k_head leaves (case hc): the law as a callee, its plain law; ts: the tables of code objects -/
theorem walk_ofC {l : PySem.W.OpenLaw} {n k : Nat} {q : Program} {loose : List Str} {XP : (Str → Option Value) → Heap → Prop} {YP : World → Heap → Prop} {d : DefRec} {K : Params → PySem.W.Frag} {den : Den} (ts : List Addr)
    (himp : importsNone q = true) (hn : l.most = some n) (hn2 : n ≤ sizeLine) (hdf : d.params.defaults = []) (hr : Room k callerA) (hY : ∀ (w : World) (h : Heap), YP w h → (K w.params).In h)
    (hTs : ∀ (w : World) (h : Heap), YP w h → ∀ P ∈ ts, h.get? P = some (PySem.W.tabObj #[]))
    (F : ∀ (w : World) (mg : Str → Option Value) (fa : Addr) (h : Heap), (K w.params).In h → h.Ns mainGlobals mg → mg d.name = some (.ref fa) →
      ∃ (G0 : GT) (cs : List (Addr × Addr)), (∀ p ∈ cs, p.2 ∈ ts ∧ (K w.params).lookup p.2 = none) ∧ (∀ p ∈ cs, tabOf (K w.params) p.1 = some p.2) ∧ (∀ p ∈ G0.t, p.1 ∈ cs.map (·.2)) ∧
        ∀ (a : Addr) (m : Nat) (base : Heap), (K w.params).In base → base.Ns mainGlobals mg → SmAt base → (∀ p ∈ cs, LamX.TabB base mg p.1 p.2) → Callee (lawG (K w.params) G0 a m) l.prog w (K w.params) mg base k d.name 1 den [])
    (hden : ∀ m, m ≤ n → den [.scr m] [] (fun r _ => r = .v (.bl true)) (fun _ _ => False)) :
    PySem.W.WalkO q loose XP YP l.row.toRowW d [] (fun f vs => PySem.call f vs) := by
  refine Att.attach_call hn hdf fun w s₀ s₁ mg mb fa o pm cd doc a vs ns G Y ho hd hcd hmg hobj hints hlen hg => ?_
  have KX := hY w _ Y
  have SM : SmAt s₁.heap := let ⟨mm, ⟨o, es, ep, e, d, _⟩, _⟩ := (G.T.seer himp).mods; ⟨o, es, ep, e, d⟩
  obtain ⟨G0, cs, hT, hC, hG, hF⟩ := F w mg fa _ KX G.T.g hmg
  refine law_callG (cs := cs) KX G.T.g G.T.b G.T.builtins G.T.nolimit hg (fun p hp => hTs w _ Y _ (hT p hp).1) (fun p hp => (hT p hp).2) (fun p hp => codeHd_of KX (hC p hp) (hT p hp).2) G.T.bmain hobj hints (Nat.le_trans hlen hn2) hr SM (sp := liftF (lawG (K w.params) G0 a ns.length) 1 den) (fun base hK hN hS hTB => ?_) (fun H hO aT hH hS => law_start hden hlen hO aT hH hG hS)
  obtain ⟨f, fd, us, dvs, ps, h1, h2, h3, h4, h5, h6⟩ := (hF a ns.length base hK hN hS hTB).ex
  rw [hmg] at h1
  cases h1
  have e : us = [] := by
    obtain ⟨v1, v2⟩ := h4
    have v3 := v2 (fun _ => none) (fun _ => none)
    rw [RepL] at v3
    subst v3
    cases v1
    rfl
  subst e
  refine ⟨fd, ps, fun s u hs => ?_, by rw [← h6]; exact h5.fn⟩
  have := h3 s [u] hs (by rw [h6]; rfl)
  simpa using this
end DL
namespace DL
open PySem PySem.Spec PyProof.Rows L2

/-! ### t[::-1], t a tuple -/
theorem fm_congr {α β : Type} {f g : α → Option β} : ∀ {l : List α}, (∀ m ∈ l, f m = g m) → l.filterMap f = l.filterMap g
  | [], _ => rfl
  | x :: l, h => by
    rw [List.filterMap_cons, List.filterMap_cons, h x (List.mem_cons_self ..), fm_congr fun m hm => h m (List.mem_cons_of_mem _ hm)]
theorem revPick (xs : Array Value) : ((List.range xs.size).filterMap fun (m : Nat) => xs[((xs.size : Int) - 1 + (m : Int) * (-1)).toNat]?).toArray = xs.toList.reverse.toArray := by
  have h1 : ((List.range xs.size).filterMap fun (m : Nat) => xs[((xs.size : Int) - 1 + (m : Int) * (-1)).toNat]?) = ((List.range xs.size).map fun k => xs.size - 1 - k).filterMap (xs[·]?) := by
    rw [List.filterMap_map]
    refine fm_congr fun m hm => ?_
    have hm := List.mem_range.mp hm
    show xs[((xs.size : Int) - 1 + (m : Int) * (-1)).toNat]? = xs[xs.size - 1 - m]?
    have e : ((xs.size : Int) - 1 + (m : Int) * (-1)).toNat = xs.size - 1 - m := by omega
    rw [e]
  rw [h1, PySem.W.krv_range, List.filterMap_reverse, PySem.W.krv_all]
section
variable {prog : Program} {w : World} {A : Around} {E : Value → Shared → Prop} {s : Shared}
theorem getTupRev {t sl : Addr} {items : Array Value} {vl vu vs : Value} {Q : Value → Shared → Prop} (ht : IsTup s.heap t items) (hs : s.heap.IsSliceOf sl vl vu vs) (pl : IsPart vl none) (pu : IsPart vu none) (ps : IsPart vs (some (-1)))
    (h : Q (.ref s.heap.objs.size) { s with heap := s.heap.push { cls := .type "tuple", data := .seq items.toList.reverse.toArray } }) (hsz : items.size ≤ sizeLine) : wpAny (model prog w) A (getItem (.ref t) (.ref sl)) Q E s := by
  have htake : sizeOk (.seq items.toList.reverse.toArray) := by
    show items.toList.reverse.toArray.size ≤ sizeLine
    rw [List.size_toArray, List.length_reverse, Array.length_toList]
    exact hsz
  obtain ⟨os, hos, hcs, hds⟩ := id hs
  have hTs : s.TypeIs (.ref sl) "slice" := ⟨os, hos, hcs⟩
  unfold getItem
  try with_reducible refine wpAny_holding ?_
  first | refine wpAny_bind (wpAny_pure ?_) | skip
  refine wpAny_bind (wpAny_sequenceKey ht.typeIs (by decide) ?_)
  refine wpAny_bind (wpAny_callSpecial?_slot (name := Str.ofString "__getitem__") ht.typeIs PyProof.Rows.slot_tuple_getitem
    (wpAny_call_entry PyProof.Rows.slot_tuple_getitem ht.typeIs entry_tuple_getitem ?_ (args_tuple_getitem _ _)))
  show wpAny _ _ (Builtin.Tuple.tupleItemsOf (.ref t) >>= _) _ _ s
  refine wpAny_bind (tupleItemsOf_ ht ?_)
  refine wpAny_bind (wpAny_typeOf hTs ?_)
  rw [if_pos (by decide)]
  have app : ∀ {A' : Around} {Q' : Int × Int × Nat → Shared → Prop}, Q' ((items.size : Int) - 1, -1, items.size) s → wpAny (model prog w) A' (Builtin.Slice.sliceApplied (.ref sl) (pure (items.size : Int))) Q' E s := fun {A' Q'} q => by
    unfold Builtin.Slice.sliceApplied Builtin.Slice.sliceFields
    refine wpAny_bind (wpAny_bind (wpAny_field hos hds (x := vl) rfl (wpAny_bind (wpAny_field hos hds (x := vu) rfl (wpAny_bind (wpAny_field hos hds (x := vs) rfl (wpAny_pure ?_)))))))
    refine wpAny_bind (HT.slicePart_ ps ?_)
    show wpAny _ _ (if ((-1 : Int) == 0) = true then _ else _) _ _ s
    rw [if_neg (by decide)]
    refine wpAny_bind (HT.slicePart_ pl (wpAny_bind (HT.slicePart_ pu (wpAny_bind (wpAny_pure ?_)))))
    show wpAny _ _ (match Builtin.Slice.sliceAdjust none none (-1) (items.size : Int) with | (lo, hi) => pure (lo, (-1 : Int), Builtin.Slice.slicePlaces lo hi (-1))) _ _ s
    have e1 : Builtin.Slice.sliceAdjust none none (-1) (items.size : Int) = ((items.size : Int) - 1, -1) := by first | rfl | simp [Builtin.Slice.sliceAdjust]
    rw [e1]
    have e2 : Builtin.Slice.slicePlaces ((items.size : Int) - 1) (-1) (-1) = items.size := by
      unfold Builtin.Slice.slicePlaces
      split <;> first | omega | (simp; omega)
    show wpAny _ _ (pure ((items.size : Int) - 1, (-1 : Int), Builtin.Slice.slicePlaces ((items.size : Int) - 1) (-1) (-1))) _ _ s
    rw [e2]
    exact wpAny_pure q
  refine wpAny_bind (app ?_)
  have hno : ¬ ((((items.size : Int) - 1) == 0 && (-1 : Int) == 1 && items.size == items.size) = true) := by simp
  show wpAny _ _ (if (((items.size : Int) - 1) == 0 && (-1 : Int) == 1 && items.size == items.size) = true then _ else _) _ _ s
  rw [if_neg hno, revPick]
  first
    | exact wpAny_bind (m := Builtin.Tuple.tupleExact _) (wpAny_newObj_type (wpAny_pure ⟨_, rfl, wpAny_pure h⟩) htake)
    | exact wpAny_bind (m := Builtin.Tuple.tupleExact _) (wpAny_newObj_type (wpAny_bind (wpAny_pure (wpAny_pure ⟨_, rfl, wpAny_pure h⟩))) htake)
    | exact wpAny_bind (wpAny_bind (m := Builtin.Tuple.tupleExact _) (wpAny_newObj_type (wpAny_pure (wpAny_pure ⟨_, rfl, wpAny_pure h⟩)) htake))
    | exact wpAny_bind (wpAny_bind (m := Builtin.Tuple.tupleExact _) (wpAny_newObj_type (wpAny_pure ⟨_, rfl, wpAny_pure h⟩) htake))
end
def tRev (K : PySem.W.Frag) (te : TE) : TE := fun σ H Q => te σ H fun x H1 => ∃ a xs, x = .ref a ∧ ((SqL K H1 a xs ∧ ∀ p, H1 p = none → Q (.ref p) (upd H1 p (.lst xs.reverse))) ∨ (SqT K H1 a xs ∧ ∀ (p : Addr) (o : Obj), H1 p = none → o.dict = none → Q (.ref p) (upd H1 p (.frz o (.tup xs.reverse)))))
section
variable {X : Cx}
theorem pe_rev {e : Expr} {te : TE} {k : Nat} {p1 p2 p3 pos : Pos} (he : PE X e te) : PE X (.Subscript e (.Slice none none (some (.UnaryOp .USub (.Constant (.int 1) k p1) p2)) p3) pos) (tRev X.K te) := by
  refine ⟨fun pins s σ H Q I h => ?_⟩
  refine Subscript_ (thn (he.run pins s σ H _ I h) fun v s1 ⟨x, H1, J1, r1, q1⟩ => ?_)
  obtain ⟨a, xs, ex, q⟩ := q1
  subst ex
  cases r1
  have hst : PO X (some (.UnaryOp .USub (.Constant (.int 1) k p1) p2)) (tPart (tUn (rU fun i => .int (-i)) (tC (.int 1)))) := po_some (pe_un un_neg pe_int)
  refine wpAny_Slice (thn (po_none.run pins s1 σ H1 (fun o H2 => o = none ∧ H2 = H1) J1 ⟨rfl, rfl⟩) fun vl s2 ⟨l, H2, J2, pl, el, e2⟩ => ?_)
  subst el e2
  refine thn (po_none.run pins s2 σ H2 (fun o H3 => o = none ∧ H3 = H2) J2 ⟨rfl, rfl⟩) fun vu s3 ⟨u, H3, J3, pu, eu, e3⟩ => ?_
  subst eu e3
  refine thn (hst.run pins s3 σ H3 (fun o H4 => o = some (-1) ∧ H4 = H3) J3 ⟨1, rfl, -1, rfl, rfl, rfl⟩) fun vs s4 ⟨o, H4, J4, ps, eo, e4⟩ => ?_
  subst eo e4
  have J5 : Inv X pins σ H4 { s4 with heap := s4.heap.push { cls := .type "slice", data := .fields #[vl, vu, vs] } } := J4.kept (t' := s4.toks) fun b ob q => Heap.get?_push_of_some _ q
  show wpAny (model X.prog X.w) X.A (subscriptTail e (.Slice none none (some (.UnaryOp .USub (.Constant (.int 1) k p1) p2)) p3) (.ref a) (.ref s4.heap.objs.size)) (EP X pins σ Q) X.xe { s4 with heap := s4.heap.push { cls := .type "slice", data := .fields #[vl, vu, vs] } }
  rcases q with ⟨hx, q⟩ | ⟨hx, q⟩
  · obtain ⟨its, r, ht, hz⟩ := J5.list hx
    have hlen := r.length
    refine tail_any (ops := [.ref a, .ref s4.heap.objs.size]) ht.isList.typeIs (PySem.slot_list_getitem.lookup) ?_ (by with_unfolding_all rfl)
    refine wpAny_getItem_list_slice ht.isList (Heap.IsSliceOf.new _ vl vu vs) pl pu ps (by decide) ?_ (by rw [List.size_toArray]; omega)
    rw [PySem.W.krv_pick]
    refine ⟨.ref _, _, J5.laid (t' := s4.toks) (o := .lst xs.reverse) (fun b ob q => Heap.get?_push_of_some _ q) (Nat.le_refl _) ?_, rfl, q _ (J5.hok.fresh (Nat.le_refl _))⟩
    exact ⟨by rw [List.length_reverse]; exact hz, _, 0, r.reverse, Heap.get?_push_size _ rfl⟩
  · obtain ⟨its, r, ht, hz⟩ := J5.tuple hx
    have hlen := r.length
    refine tail_any (ops := [.ref a, .ref s4.heap.objs.size]) ht.typeIs (PyProof.Rows.slot_tuple_getitem.lookup) ?_ (by with_unfolding_all rfl)
    refine getTupRev ht (Heap.IsSliceOf.new _ vl vu vs) pl pu ps ?_ (by rw [List.size_toArray]; omega)
    refine ⟨.ref _, _, J5.laid (t' := s4.toks) (o := .frz { cls := .type "tuple", data := .seq its.toArray.toList.reverse.toArray } (.tup xs.reverse)) (fun b ob q => Heap.get?_push_of_some _ q) (Nat.le_refl _) ?_, rfl, q _ _ (J5.hok.fresh (Nat.le_refl _)) rfl⟩
    exact ⟨Heap.get?_push_size _ rfl, by rw [List.length_reverse]; exact hz, _, r.reverse, _, Heap.get?_push_size _ rfl, rfl, _, rfl⟩
end
def gRev : D → Option Rv
  | .tup l => some (.v (.lds l.reverse))
  | .lds l => some (.v (.lds l.reverse))
  | .lst l => some (.ol l.reverse)
  | _ => none
section
variable {G : GT} {X : Cx} {W : WX} {e : Expr} {te : DE} {k : Nat} {p1 p2 p3 pos : Pos} {H : Hp} {ow : OW}
theorem RepL.reverse {l : List D} {xs : List V} (h : RepL G H ow l xs) : RepL G H ow l.reverse xs.reverse := by
  induction l generalizing xs with
  | nil => rw [RepL] at h; subst h; exact RepL.nil
  | cons d l ih =>
    rw [RepL] at h
    obtain ⟨x, r, rfl, h1, h2⟩ := h
    rw [List.reverse_cons, List.reverse_cons]
    exact (ih h2).append (RepL.cons h1 RepL.nil)
theorem pd_rev (he : PD G X W e te) : PD G X W (.Subscript e (.Slice none none (some (.UnaryOp .USub (.Constant (.int 1) k p1) p2)) p3) pos) (dUn gRev te) :=
  ⟨PE.wk (pe_rev he.pe) fun σ H Q _ h => by
    obtain ⟨ow, s, Qd, Ed, E, t, hQ, hE⟩ := h
    refine ⟨ow, s, _, Ed, E, t, fun r s1 q1 v H1 owa e1 E1 R1 => ?_, hE⟩
    obtain ⟨d, hd, q2⟩ := bindO_some q1
    obtain ⟨z, hz, q3⟩ := bindO_some q2
    have V1 := view_ok E1 R1 hd
    have F : Fin G σ s1 owa H1 H z Q := fun v' ow' H' e' E' R' => hQ _ _ q3 _ _ _ (e1.trans e') E' R'
    cases d with
    | tup l =>
      cases hz
      obtain ⟨a, xs, rfl, t1, r1⟩ := V1.tup
      exact ⟨a, xs, rfl, .inr ⟨t1.sq, fun p o hp od => F.lds E1 hp od r1.reverse⟩⟩
    | lds l =>
      cases hz
      obtain ⟨a, xs, rfl, t1, r1⟩ := V1.lds
      exact ⟨a, xs, rfl, .inr ⟨t1.sq, fun p o hp od => F.lds E1 hp od r1.reverse⟩⟩
    | lst l =>
      cases hz
      obtain ⟨a, xs, rfl, t1, r1⟩ := V1
      exact ⟨a, xs, rfl, .inl ⟨sqL_of t1, fun p hp => F.lst E1 e1 hp r1.reverse⟩⟩
    | _ => cases hz⟩
end
/-- a def that is never run -/
def denNo : Den := fun _ _ _ _ => False
theorem callee_no {G : GT} {P : Program} {w : World} {K : PySem.W.Frag} {mg : Str → Option Value} {base : Heap} {k : Nat} {f : Addr} {x y : Str} {st : Stmt} {fd : FuncData} {ps : List Str} (hm : mg y = some (.ref f)) (F : Fun K x x st f fd) (hb : Binds K fd ps []) : Callee G P w K mg base k y ps.length denNo [] :=
  ⟨f, fd, [], [], ps, hm, F.kp, hb, dv0, ⟨⟨fun vs H Q E h => by
      obtain ⟨_, _, _, _, _, _, _, _, _, z, _⟩ := h
      exact z.elim, fun A outer s H args us vs Q E hr hg he hb hv h => by
      obtain ⟨_, _, _, _, _, _, _, _, _, z, _⟩ := h
      exact z.elim⟩⟩, rfl⟩
end DL
namespace DL
open PySem PySem.Spec PyProof.Rows L2

/-! ### a def told by hand -/
theorem callee_raw {G : GT} {P : Program} {w : World} {K : PySem.W.Frag} {mg : Str → Option Value} {base : Heap} {k : Nat} {f : Addr} {x y : Str} {st : Stmt} {fd : FuncData} {N ps : List Str} {den : Den} (hm : mg y = some (.ref f)) (F : Fun K x x st f fd) (S : FnScope N ps (defScope st)) (hb : Binds K fd ps [])
    (hbody : ∀ (cdv : Value) (A : Around) (outer : List Env) (s : Shared) (H : Hp) (vs : List V) (Q : VK) (E : XK), Room k (A.deeper (envOfC x (defScope st) s.heap.objs.size f cdv)) → (A.deeper (envOfC x (defScope st) s.heap.objs.size f cdv)).guards = some [] → liftF G ps.length den vs H Q E →
      ∃ t, PSs (cxOf (L2.CX P w) P w K mg base N x (defScope st) f cdv A outer s H E) (defBody st) t ∧ t { nx := fun _ H' => Q .non H', rt := Q } (L2.start N vs) H) : Callee G P w K mg base (k + 1) y ps.length den [] := by
  refine ⟨f, fd, [], [], ps, hm, F.kp, hb, dv0, ⟨?_⟩, rfl⟩
  obtain ⟨oc, od, kV, doc, pm, an, cdv, ct, osl, rfl, lk, hcd⟩ := F.ex
  refine fnG_of lk hcd S (fun vs H Q E h => ?_) fun A outer s H vs Q E hr hg h => hbody cdv A outer s H vs Q E hr hg h
  obtain ⟨ow, ds, g, Qd, Ed, h1, h2, h3, h4, _⟩ := h
  rw [h4.length, h2]

theorem four_le_line : 4 ≤ sizeLine := by decide +kernel
/-! ### the draws: one dict, one list, changed in place -/
def drK (m : Int) (b : Addr) (t : Int) : List (Key × V) := [(Sum.inr "mixed", .int m), (Sum.inr "great", .ref b), (Sum.inr "turn", .int t)]
section
variable {G : GT} {ow ow' ow0 : OW} {H H' H0 : Hp} {a b : Addr}
theorem Ext.loose {o u : HO} (hl : Ow.loose (ow a) = true) (h : H a = some u) : Ext ow H ow (upd H a o) where
  keep := fun c z e l => by
    have n : c ≠ a := fun q => by subst q; rw [hl] at l; cases l
    rw [upd_ne n]; exact e
  there := fun c z e => by
    by_cases n : c = a
    · subst n; exact ⟨o, upd_same⟩
    · exact ⟨z, by rw [upd_ne n]; exact e⟩
  own := fun c z e => .inl rfl
theorem GR.dr_upd {o u : HO} {g : Gst} (q : GR G ow H g) (ha : ow a = some .dr) (hA : H a = some u) (D : DrawAt ow (upd H a o) a) : GR G ow (upd H a o) g := by
  have e : Ext ow H ow (upd H a o) := Ext.loose (by rw [ha]; rfl) hA
  have ne : ∀ {c : Addr} {w : Ow}, ow c = some w → w ≠ .dr → c ≠ a := fun h n z => by subst z; rw [ha] at h; cases h; exact n rfl
  refine ⟨fun c h i => ?_, fun c n h i => ?_, fun c d n h1 h2 i1 i2 => ?_, fun p hp => ?_⟩
  · by_cases z : c = a
    · subst z; exact D
    · rw [upd_ne z] at i
      obtain ⟨m, t, x, gs, h1, h2, h3, h4⟩ := q.dr c h i
      exact ⟨m, t, x, gs, by rw [upd_ne z]; exact h1, h2, by rw [upd_ne (ne h2 (by intro y; cases y))]; exact h3, h4⟩
  · have z := ne h (by intro y; cases y)
    rw [upd_ne z] at i
    obtain ⟨ob, dx, fs, h1, h2, h3⟩ := q.ob c n h i
    exact ⟨ob, dx, fs, h1, by rw [upd_ne z]; exact h2, h3.imp fun d v y => Rep.ext e d v y⟩
  · rw [upd_ne (ne h1 (by intro y; cases y))] at i1
    rw [upd_ne (ne h2 (by intro y; cases y))] at i2
    exact q.inj c d n h1 h2 i1 i2
  · obtain ⟨h1, h2⟩ := q.tab p hp
    exact ⟨h1, h2.imp (upd_ne (ne h1 (by intro y; cases y))) fun c n t => ⟨n, by rw [upd_ne (fun z => by rw [z, ha] at n; cases n)]; exact t⟩⟩
theorem GR.drl_upd {u : HO} {g : Gst} (q : GR G ow H g) (hb : ow b = some .drl) (hB : H b = some u) {gs' : List Int} (hp : ∀ x ∈ gs', 0 ≤ x) : GR G ow (upd H b (.lst (gs'.map V.int))) g := by
  have e : Ext ow H ow (upd H b (.lst (gs'.map V.int))) := Ext.loose (by rw [hb]; rfl) hB
  have ne : ∀ {c : Addr} {w : Ow}, ow c = some w → w ≠ .drl → c ≠ b := fun h n z => by subst z; rw [hb] at h; cases h; exact n rfl
  refine ⟨fun c h i => ?_, fun c n h i => ?_, fun c d n h1 h2 i1 i2 => ?_, fun p hp => ?_⟩
  · have z := ne h (by intro y; cases y)
    rw [upd_ne z] at i
    obtain ⟨m, t, x, gs, h1, h2, h3, h4, h5, h6, h7⟩ := q.dr c h i
    by_cases y : x = b
    · subst y
      exact ⟨m, t, x, gs', by rw [upd_ne z]; exact h1, h2, upd_same, h4, h5, h6, hp⟩
    · exact ⟨m, t, x, gs, by rw [upd_ne z]; exact h1, h2, by rw [upd_ne y]; exact h3, h4, h5, h6, h7⟩
  · have z := ne h (by intro y; cases y)
    rw [upd_ne z] at i
    obtain ⟨ob, dx, fs, h1, h2, h3⟩ := q.ob c n h i
    exact ⟨ob, dx, fs, h1, by rw [upd_ne z]; exact h2, h3.imp fun d v y => Rep.ext e d v y⟩
  · rw [upd_ne (ne h1 (by intro y; cases y))] at i1
    rw [upd_ne (ne h2 (by intro y; cases y))] at i2
    exact q.inj c d n h1 h2 i1 i2
  · obtain ⟨h1, h2⟩ := q.tab p hp
    exact ⟨h1, h2.imp (upd_ne (ne h1 (by intro y; cases y))) fun c n t => ⟨n, by rw [upd_ne (fun z => by rw [z, hb] at n; cases n)]; exact t⟩⟩
/-- where the draws stand -/
structure DrS (G : GT) (ow0 : OW) (H0 : Hp) (g : Gst) (a b : Addr) (m t : Int) (gs : List Int) (ow : OW) (H : Hp) : Prop where
  e : Ext ow0 H0 ow H
  gr : GR G ow H g
  oa : ow a = some .dr
  ha : H a = some (.dK (drK m b t))
  ob : ow b = some .drl
  hb : H b = some (.lst (gs.map V.int))
  m0 : 0 ≤ m
  m1 : m < 2305843009213693951
  t0 : 0 ≤ t
  g0 : ∀ x ∈ gs, 0 ≤ x
variable {g : Gst} {m t : Int} {gs : List Int}
theorem DrS.new (S : DrS G ow0 H0 g a b m t gs ow H) {p : Addr} {o : HO} (h : H p = none) : DrS G ow0 H0 g a b m t gs (ow1 ow p (some .far)) (upd H p o) where
  e := S.e.trans (Ext.new h)
  gr := S.gr.ext_new h rfl
  oa := (ow1_ne (ne_of_none S.ha h)).trans S.oa
  ha := by rw [upd_ne (ne_of_none S.ha h)]; exact S.ha
  ob := (ow1_ne (ne_of_none S.hb h)).trans S.ob
  hb := by rw [upd_ne (ne_of_none S.hb h)]; exact S.hb
  m0 := S.m0
  m1 := S.m1
  t0 := S.t0
  g0 := S.g0
theorem DrS.ne (S : DrS G ow0 H0 g a b m t gs ow H) : a ≠ b := fun z => by
  have h := S.oa
  rw [z, S.ob] at h
  cases h
theorem DrS.put (S : DrS G ow0 H0 g a b m t gs ow H) {m' t' : Int} (h0 : 0 ≤ m') (h1 : m' < 2305843009213693951) (h2 : 0 ≤ t') : DrS G ow0 H0 g a b m' t' gs ow (upd H a (.dK (drK m' b t'))) where
  e := S.e.trans (Ext.loose (by rw [S.oa]; rfl) S.ha)
  gr := S.gr.dr_upd S.oa S.ha ⟨m', t', b, gs, upd_same, S.ob, by rw [upd_ne S.ne.symm]; exact S.hb, h0, h1, h2, S.g0⟩
  oa := S.oa
  ha := upd_same
  ob := S.ob
  hb := by rw [upd_ne S.ne.symm]; exact S.hb
  m0 := h0
  m1 := h1
  t0 := h2
  g0 := S.g0
theorem DrS.putL (S : DrS G ow0 H0 g a b m t gs ow H) {gs' : List Int} (hp : ∀ x ∈ gs', 0 ≤ x) : DrS G ow0 H0 g a b m t gs' ow (upd H b (.lst (gs'.map V.int))) where
  e := S.e.trans (Ext.loose (by rw [S.ob]; rfl) S.hb)
  gr := S.gr.drl_upd S.ob S.hb hp
  oa := S.oa
  ha := by rw [upd_ne S.ne]; exact S.ha
  ob := S.ob
  hb := upd_same
  m0 := S.m0
  m1 := S.m1
  t0 := S.t0
  g0 := hp
theorem drs_of {vs : List V} {n : Int} (hgr : GR G ow H g) (hr : RepL G H ow [.dr, .int n] vs) : ∃ a b m t gs, vs = [.ref a, .int n] ∧ DrS G ow H g a b m t gs ow H := by
  obtain ⟨x, r, rfl, h1, h2⟩ := (by rw [RepL] at hr; exact hr)
  obtain ⟨y, r', rfl, h3, h4⟩ := (by rw [RepL] at h2; exact h2)
  rw [RepL] at h4
  subst h4
  rw [Rep] at h1
  rw [Rep] at h3
  subst h3
  obtain ⟨a, rfl, oa, ia⟩ := h1
  obtain ⟨m, t, b, gs, k1, k2, k3, k4, k5, k6, k7⟩ := hgr.dr a oa ia
  exact ⟨a, b, m, t, gs, rfl, Ext.refl _ _, hgr, oa, k1, k2, k3, k4, k5, k6, k7⟩
theorem DrS.getT (S : DrS G ow0 H0 g a b m t gs ow H) : DGet H a (.str "turn") (some (.int t)) := .inl ⟨_, .inr "turn", .inl S.ha, rfl, rfl⟩
theorem DrS.getM (S : DrS G ow0 H0 g a b m t gs ow H) : DGet H a (.str "mixed") (some (.int m)) := .inl ⟨_, .inr "mixed", .inl S.ha, rfl, rfl⟩
theorem DrS.getG (S : DrS G ow0 H0 g a b m t gs ow H) : DGet H a (.str "great") (some (.ref b)) := .inl ⟨_, .inr "great", .inl S.ha, rfl, rfl⟩
theorem DrS.setT (S : DrS G ow0 H0 g a b m t gs ow H) {t' : Int} : DPut H a (.str "turn") (.int t') (upd H a (.dK (drK m b t'))) := .inl ⟨_, .inr "turn", S.ha, rfl, Nat.lt_of_lt_of_le (by show 3 < 4; decide) four_le_line, rfl⟩
theorem DrS.setM (S : DrS G ow0 H0 g a b m t gs ow H) {m' : Int} : DPut H a (.str "mixed") (.int m') (upd H a (.dK (drK m' b t))) := .inl ⟨_, .inr "mixed", S.ha, rfl, Nat.lt_of_lt_of_le (by show 3 < 4; decide) four_le_line, rfl⟩
theorem DrS.sq (S : DrS G ow0 H0 g a b m t gs ow H) {K : PySem.W.Frag} : SqL K H b (gs.map V.int) := sqL_of S.hb
theorem atI_int {gs : List Int} {i : Int} (h0 : 0 ≤ i) (h1 : i < gs.length) : atI (gs.map V.int) i = some (.int (gs[i.toNat]'(by omega))) := by
  unfold atI
  have e : ixN (gs.map V.int).length i = some i.toNat := by
    rw [List.length_map]
    unfold ixN
    split <;> first | omega | (split <;> first | omega | rfl) | rfl
  rw [e]
  show (gs.map V.int)[i.toNat]? = _
  rw [List.getElem?_map, List.getElem?_eq_getElem (by omega)]
  rfl
def intsP (gs : List Int) : PyData := .list (gs.map PyData.int)
theorem dpAll_ints {K : PySem.W.Frag} : ∀ {gs : List Int}, DpAll K H (gs.map V.int) (gs.map PyData.int)
  | [] => .nil
  | x :: gs => .cons (.int x) dpAll_ints
theorem dp_ints {K : PySem.W.Frag} {gs : List Int} (h : H b = some (.lst (gs.map V.int))) : Dp K H (.ref b) (intsP gs) := .lst (sqL_of h) dpAll_ints
theorem lay_ints : ∀ (gs : List Int), PyData.canLayAll0 (gs.map PyData.int) = true ∧ PyData.depthAll (gs.map PyData.int) = 0
  | [] => by simp [PyData.canLayAll0, PyData.depthAll]
  | x :: gs => by
    obtain ⟨h1, h2⟩ := lay_ints gs
    simp [PyData.canLayAll0, PyData.depthAll, PyData.canLay0, PyData.depth, h1, h2]
theorem shaped_ints {gs : List Int} : SeqAt.shaped (intsP gs) = true := by
  obtain ⟨h1, h2⟩ := lay_ints gs
  simp [SeqAt.shaped, intsP, PyData.canLay0, PyData.depth, h1, h2]
theorem eqv_ints0 {gs : List Int} : PyData.eqv (intsP gs) (intsP []) = gs.isEmpty := by
  cases gs <;> simp [intsP, PyData.eqv, PyData.eqvAll]
theorem nonneg_set {gs : List Int} {k : Nat} {x : Int} (h : ∀ y ∈ gs, 0 ≤ y) (hx : 0 ≤ x) : ∀ y ∈ gs.set k x, 0 ≤ y := fun y hy => by
  rcases List.mem_or_eq_of_mem_set hy with z | z
  · exact h y z
  · rw [z]; exact hx
theorem set_ints {gs : List Int} {k : Nat} {x : Int} : (gs.map V.int).set k (.int x) = (gs.set k x).map V.int := by rw [List.map_set]
theorem ixN_int {n : Nat} {i : Int} (h0 : 0 ≤ i) (h1 : i < n) : ixN n i = some i.toNat := by
  unfold ixN
  rw [if_pos h0, if_pos h1]
/-- nothing old is changed, nothing new is an object -/
theorem GR.grow {g : Gst} (q : GR G ow H g) (e : Ext ow H ow' H') (same : ∀ c o, H c = some o → H' c = some o) (nob : ∀ c n, H c = none → ow' c ≠ some (.obj n)) (ndr : ∀ c, H c = none → ow' c = some .dr → DrawAt ow' H' c) : GR G ow' H' g := by
  have old : ∀ {c : Addr} {o : HO} {u : Ow}, H c = some o → ow' c = some u → ow c = some u := fun {c o u} h k => by
    rcases e.own c o h with z | ⟨_, z⟩
    · rw [← z]; exact k
    · rw [z] at k; cases k
  have keep : ∀ {c : Addr} {o : HO} {u : Ow}, H c = some o → Ow.isSlot (some u) = false → ow c = some u → ow' c = some u := fun {c o u} h s k => (e.own_keep h (by rw [k]; exact s)).trans k
  refine ⟨fun c h i => ?_, fun c n h i => ?_, fun c d n h1 h2 i1 i2 => ?_, fun p hp => ?_⟩
  · cases z : H c with
    | none => exact ndr c z h
    | some o =>
      obtain ⟨m, t, x, gs, h1, h2, h3, h4⟩ := q.dr c (old z h) (by rw [z]; rfl)
      exact ⟨m, t, x, gs, same _ _ h1, keep h3 rfl h2, same _ _ h3, h4⟩
  · cases z : H c with
    | none => exact absurd h (nob c n z)
    | some o =>
      obtain ⟨ob, dx, fs, h1, h2, h3⟩ := q.ob c n (old z h) (by rw [z]; rfl)
      exact ⟨ob, dx, fs, h1, same _ _ h2, h3.imp fun d v y => Rep.ext e d v y⟩
  · cases z1 : H c with
    | none => exact absurd h1 (nob c n z1)
    | some o =>
      cases z2 : H d with
      | none => exact absurd h2 (nob d n z2)
      | some o2 => exact q.inj c d n (old z1 h1) (old z2 h2) (by rw [z1]; rfl) (by rw [z2]; rfl)
  · obtain ⟨h1, h2⟩ := q.tab p hp
    obtain ⟨o, ho⟩ := Option.isSome_iff_exists.mp h2.some
    exact ⟨keep ho rfl h1, h2.imp ((same _ _ ho).trans ho.symm) fun c n t => ⟨(e.of_none0 t n).1, same _ _ t⟩⟩
theorem scr_seq {K : PySem.W.Frag} {n : Nat} {v : V} (SC : ScrC G K) (h : Rep G H ow (.scr n) v) : ∃ (a : Addr) (ns : List Int), v = .ref a ∧ ns.length = n ∧ ∀ H', (∀ c o, H c = some o → H' c = some o) → SqL K H' a (ns.map V.int) := by
  rw [Rep] at h
  obtain ⟨a, rfl, ⟨_, o, ns, ho, e⟩ | ⟨rfl, rfl, z⟩⟩ := h
  · exact ⟨a, ns, rfl, e, fun H' k => .inl (.inr ⟨o, k _ _ ho⟩)⟩
  · obtain ⟨ns, h1, h2⟩ := SC z
    exact ⟨_, ns, rfl, h1, fun H' _ => h2 H'⟩
open Classical in
/-- the owners behind the making of draws -/
noncomputable def drawOw (ow : OW) (H : Hp) (p q : Addr) : OW := fun c => if (H c).isSome = true then ow c else if c = p then some .dr else if c = q then some .drl else none
theorem draw_made {g : Gst} (hg : GR G ow H g) {p q : Addr} {m : Int} {gs : List Int} (hp : H p = none) (hq : H q = none) (hpq : q ≠ p) (same : ∀ c o, H c = some o → H' c = some o) (h1 : H' p = some (.dK (drK m q 0))) (h2 : H' q = some (.lst (gs.map V.int)))
    (m0 : 0 ≤ m) (m1 : m < 2305843009213693951) (g0 : ∀ x ∈ gs, 0 ≤ x) : ∃ ow', Ext ow H ow' H' ∧ GR G ow' H' g ∧ Rep G H' ow' .dr (.ref p) := by
  have wp : drawOw ow H p q p = some .dr := by unfold drawOw; rw [hp]; simp
  have wq : drawOw ow H p q q = some .drl := by unfold drawOw; rw [hq]; simp [hpq]
  have e : Ext ow H (drawOw ow H p q) H' := ⟨fun c o h _ => same _ _ h, fun c o h => ⟨o, same _ _ h⟩, fun c o h => .inl (by unfold drawOw; rw [h]; simp)⟩
  refine ⟨_, e, hg.grow e same (fun c n h z => ?_) (fun c h z => ?_), ?_⟩
  · unfold drawOw at z
    rw [h] at z
    simp only [Option.isSome_none] at z
    split at z
    · rename_i y; cases y
    · split at z
      · cases z
      · split at z <;> cases z
  · have ec : c = p := by
      unfold drawOw at z
      rw [h] at z
      simp only [Option.isSome_none] at z
      split at z
      · rename_i y; cases y
      · split at z
        · assumption
        · split at z <;> cases z
    subst ec
    exact ⟨m, 0, q, gs, h1, wq, h2, m0, m1, by omega, g0⟩
  · rw [Rep]
    exact ⟨p, rfl, wp, by rw [h1]; rfl⟩
end
end DL
namespace DL
open PySem PySem.Spec PyProof.Rows L2

/-! ### C(e) as a value -/
theorem inv_gens {X : Cx} {pins : List (Addr × Obj)} {σ : L2.St} {H : Hp} {s s' : Shared} (I : L2.Inv X pins σ H s) (hh : s'.heap = s.heap) (ho : s'.os = s.os) (hb : AllBare s'.gens) : L2.Inv X pins σ H s' := by
  obtain ⟨hp, g, d, t, os⟩ := s
  obtain ⟨hp', g', d', t', os'⟩ := s'
  cases hh
  cases ho
  exact ⟨I.ok, I.os, hb, I.base, I.loc, I.cell, I.free, I.freeC, I.pin, I.hok, I.len⟩
theorem pe_of_pmk {X : Cx} {e : Expr} {t : L2.St → Hp → XK → Prop} (h : PMk X e t) :
    PE X e (fun σ H Q => t σ H fun cls d H1 => ∃ C, cls = .ref C ∧ ∀ a, H1 a = none → Q (.ref a) (upd H1 a (.ext (excPhi C d a)))) :=
  ⟨fun pins s σ H Q I q => thn (h pins s σ H _ I q) fun u s1 hm => by
    obtain ⟨a, oe, vs, sI, H', cls, d, rfl, J, keep, na, ha, hz, hd, h1, hH, hos, hbare, hr, C, rfl, q⟩ := hm
    have J2 := L2.Inv.laidN (h' := s1.heap) (a := a) (o := .ext (excPhi C d a)) (t' := 0) J keep na hH (excPhi_ok ha hz.1 hz.2 hd)
    exact ⟨.ref a, _, inv_gens J2 rfl hos hbare, rfl, q a hH⟩⟩
def dMk (k : Nat) (te : DE) : DE := fun s Q E => te s (fun r s1 => bindO (settle r s1) fun p => Q (.v (.exc k p.1)) p.2) E
def dMk8 : DE := fun s Q E => Q (.v (.exc 8 .non)) s
section
variable {G : GT} {X : Cx} {W : WX} {a : Expr} {ta td : DE} {p pos pos2 p2 : Pos} {x : Str} {k kn : Nat}
theorem pd_mk (kn : Nat) (T : ∃ fI B n i bm, ExT X.prog X.K (G kn) fI (xfN kn) B n i bm) (hr : Room k X.A) (hm : X.mg x = some (.ref (G kn))) (ha : PD G X W a td) (hg : Gl X x := by rfl) (hdb : (x == ("__debug__" : Str)) = false := by decide)
    (he : starEach (a :: []) X.env = (false, eval a X.env) :: starEach [] X.env := by rfl) (hpl : (backTo pos (starEach [] X.env)).any (·.1) = false := by rfl) : PD G X W (.Call (.Name x p) [a] [] pos) (dMk kn td) := by
  obtain ⟨fI, B, n, i, bm, T⟩ := T
  refine ⟨PE.wk (pe_of_pmk (pmk_exc T hr hm hg ha.pe hdb he hpl)) fun σ H Q _ h => ?_⟩
  obtain ⟨ow, s, Qd, Ed, E, t, hQ, hE⟩ := h
  refine ⟨ow, s, _, Ed, E, t, fun r s1 q1 v H1 owa e1 E1 R1 => ?_, hE⟩
  obtain ⟨⟨d, s2⟩, hs2, q1⟩ := bindO_some q1
  obtain ⟨owb, e2, E2, R2, _⟩ := settle_ok E1 e1 R1 hs2
  refine ⟨v, rfl, fun da hd => ⟨G kn, rfl, fun ad hda => ?_⟩⟩
  have e3 : Ext owb H1 (ow1 owb da none) (upd H1 da (.xd [(xfN kn, v)])) := Ext.new hd
  have E3 : ER G (ow1 owb da none) (upd H1 da (.xd [(xfN kn, v)])) σ s2 := ER.ext_new hd rfl E2
  have e4 : Ext (ow1 owb da none) (upd H1 da (.xd [(xfN kn, v)])) (ow1 (ow1 owb da none) ad none) (upd (upd H1 da (.xd [(xfN kn, v)])) ad (.ext (excPhi (G kn) (some da) ad))) := Ext.new hda
  have E4 : ER G (ow1 (ow1 owb da none) ad none) (upd (upd H1 da (.xd [(xfN kn, v)])) ad (.ext (excPhi (G kn) (some da) ad))) σ s2 := ER.ext_new hda rfl E3
  have hne : da ≠ ad := fun z => by rw [z, upd_same] at hda; cases hda
  refine hQ _ _ q1 _ _ _ ((e2.trans e3).trans e4) E4 ?_
  rw [RepR, Rep]
  exact ⟨ad, v, rfl, ow1_same, .inl ⟨da, (), upd_same, (ow1_ne hne).trans ow1_same, (upd_ne hne).trans upd_same⟩, Rep.ext (e3.trans e4) d v R2⟩
/-- what is known of RigError -/
structure RgT (P : Program) (K : PySem.W.Frag) (C : Addr) : Prop where
  exc : PySem.W.excIn K C [.type "ValueError", .type "Exception", .type "BaseException", .type "object"] "ValueError.__new__" = true
  kp : PySem.W.keepIn K (.ref C) = true
  sb : PySem.W.subIn K (.ref C) (.type "BaseException") = some true
  ty : PySem.W.typeIn K (.ref C) = some (.type "type")
theorem pd_mk8 {m : Str} {j : Nat} (T : RgT X.prog X.K (G 8)) (hm : X.mg x = some (.ref (G 8))) (hg : Gl X x := by rfl) (hdb : (x == ("__debug__" : Str)) = false := by decide) : PD G X W (.Call (.Name x p) [.Constant (.str m) j p2] [] pos) dMk8 := by
  refine ⟨PE.wk (pe_of_pmk (pmk_own F.excBase_ValueError T.exc hm T.kp (raises_own T.sb T.ty) hg hdb)) fun σ H Q _ h => ?_⟩
  obtain ⟨ow, s, Qd, Ed, E, t, hQ, hE⟩ := h
  refine ⟨G 8, rfl, fun ad hda => ?_⟩
  have E4 : ER G (ow1 ow ad none) (upd H ad (.ext (excPhi (G 8) none ad))) σ s := ER.ext_new hda rfl E
  refine hQ _ _ t _ _ _ (Ext.new hda) E4 ?_
  rw [RepR, Rep]
  exact ⟨ad, .non, rfl, ow1_same, .inr ⟨upd_same, rfl, rfl⟩, by rw [Rep]⟩

/-! ### isinstance(e, B), B a built-in class -/
def bsX (k : Nat) (T : String) : Bool := match k with
  | 6 => T == "KeyError" || T == "LookupError"
  | 7 => T == "OverflowError"
  | _ => T == "ValueError"
def isB (cs : List Nat) (T : String) (k : Nat) : Option Bool := if k ∈ cs then some (bsX k T) else none
structure BsT (cs : List Nat) (ts : List String) (G : GT) (K : PySem.W.Frag) : Prop where
  xi : ∀ k ∈ cs, XiT G K k
  kit : ∀ k ∈ cs, ∀ T ∈ ts, PySem.W.kitOne K (.ref (G k)) (.type T) = some (bsX k T)
theorem pd_isTy {a b : Expr} {T : String} {g : Nat → Option Bool} (hc : PE X b (tC (.ty T))) (hT : ∀ k y, g k = some y → XiT G X.K k ∧ PySem.W.kitOne X.K (.ref (G k)) (.type T) = some y) (hg : Gl X "isinstance") (hm : X.mg "isinstance" = none) (ha : PD G X W a ta)
    (he : starEach [a, b] X.env = (false, eval a X.env) :: starEach [b] X.env := by rfl) (he2 : starEach [b] X.env = (false, eval b X.env) :: starEach [] X.env := by rfl)
    (hpl : (backTo pos (starEach [b] X.env)).any (·.1) = false := by rfl) : PD G X W (.Call (.Name "isinstance" p) [a, b] [] pos) (dIsT (gIsC g) ta) :=
  ⟨PE.wk (pe_callB (call_isC (G := G) (.ty T)) hg hm (by decide +kernel) (pa_cons ha.pe (pa_cons hc pa_nil he2) he) (by decide) (by decide) he hpl) fun σ H Q _ h => by
    obtain ⟨ow, s, Qd, Ed, E, t, hQ, hE⟩ := h
    refine ⟨ow, s, _, Ed, E, t, fun r s1 q0 v H1 ow1 e1 E1 R1 => ?_, hE⟩
    obtain ⟨d, hd, q2⟩ := bindO_some q0
    obtain ⟨bb, hb, q3⟩ := bindO_some q2
    have V1 := view_ok E1 R1 hd
    cases d with
    | exc k d' =>
      have V1 : Rep G H1 ow1 (.exc k d') v := V1
      rw [Rep] at V1
      obtain ⟨a', y, rfl, oa, t2, R2⟩ := V1
      obtain ⟨T, h2⟩ := hT k bb hb
      exact ⟨a', k, y, ow1, bb, rfl, t2, T, h2, hQ _ _ q3 _ _ _ e1 E1 (by rw [RepR, Rep])⟩
    | _ => cases hb⟩
theorem pd_isB {cs : List Nat} {ts : List String} {T : String} (B : BsT cs ts G X.K) (hT : T ∈ ts) (hc : PE X (.Name x p2) (tC (.ty T))) (hg : Gl X "isinstance") (hm : X.mg "isinstance" = none) (ha : PD G X W a ta)
    (he : starEach [a, .Name x p2] X.env = (false, eval a X.env) :: starEach [.Name x p2] X.env := by rfl) (he2 : starEach [.Name x p2] X.env = (false, eval (.Name x p2) X.env) :: starEach [] X.env := by rfl)
    (hpl : (backTo pos (starEach [.Name x p2] X.env)).any (·.1) = false := by rfl) : PD G X W (.Call (.Name "isinstance" p) [a, .Name x p2] [] pos) (dIsT (gIsC (isB cs T)) ta) :=
  pd_isTy hc (fun k y h => by
    unfold isB at h
    split at h
    · cases h
      exact ⟨B.xi k (by assumption), B.kit k (by assumption) T hT⟩
    · cases h) hg hm ha he he2 hpl
end
end DL
namespace DL
open PySem PySem.Spec PyProof.Rows L2

/-! ### strings -/
def strsD : List D → Option (List Str)
  | [] => some []
  | .str s :: l => Option.map (fun m => s :: m) (strsD l)
  | _ :: _ => none
section
variable {G : GT} {ow ow' : OW} {H H' : Hp}
theorem strsD_rep : ∀ {l : List D} {xs : List V} {ys : List Str}, RepL G H ow l xs → strsD l = some ys → xs = ys.map V.str
  | [], xs, ys, r, h => by rw [RepL] at r; cases h; exact r
  | d :: l, xs, ys, r, h => by
    rw [RepL] at r
    obtain ⟨x, q, rfl, r1, r2⟩ := r
    cases d with
    | str s =>
      rw [Rep] at r1
      subst r1
      cases hs : strsD l with
      | none => simp [strsD, hs] at h
      | some m =>
        simp only [strsD, hs, Option.map_some] at h
        cases h
        rw [strsD_rep r2 hs]
        rfl
    | _ => simp [strsD] at h
theorem strs_rep : ∀ ys : List Str, RepL G H ow (ys.map D.str) (ys.map V.str)
  | [] => RepL.nil
  | y :: ys => by
    rw [List.map_cons, List.map_cons, RepL]
    exact ⟨_, _, rfl, by rw [Rep], strs_rep ys⟩
end
def gSplit : DOp := fun d e => match d, e with
  | .str a, .str b => ifB (!(b.length == 0) && decide (a.length + 2 ≤ 16777216)) (some (.ol ((Txt.split a b).map D.str)))
  | _, _ => none
def gJoin : DOp := fun d e => match d, e with
  | .str a, .lst l => bindR (strsD l) fun ys => ifB (decide ((ys.map (·.length)).sum + ys.length * a.length ≤ 16777216)) (some (.v (.str (Txt.join a ys))))
  | .str a, .lds l => bindR (strsD l) fun ys => ifB (decide ((ys.map (·.length)).sum + ys.length * a.length ≤ 16777216)) (some (.v (.str (Txt.join a ys))))
  | _, _ => none
where bindR (o : Option (List Str)) (f : List Str → Option Rv) : Option Rv := match o with
  | some ys => f ys
  | none => none
/-- o.m(e), o a string -/
def dMS (g : DOp) (to te : DE) : DE := fun s Q E => to s (fun r1 s1 => bindO (view s1 r1) fun d1 => match d1 with
  | .str a => te s1 (fun r2 s2 => bindO (view s2 r2) fun d2 => bindO (g (.str a) d2) fun z => Q z s2) E
  | _ => False) E
section
variable {G : GT} {X : Cx} {W : WX} {a b e o : Expr} {to te ta : DE} {apos pos : Pos} {p : Pos} {tg : Expr}
theorem pd_split (ho : PD G X W o to) (he : PD G X W e te) (hs : starEach [e] X.env = [(false, eval e X.env)] := by rfl) (hb : attributeBase o "split" X.env (eval o X.env) = eval o X.env := by rfl) (hl : (apos.endLine == pos.line) = true := by rfl) :
    PD G X W (.Call (.Attribute o "split" apos) [e] [] pos) (dMS gSplit to te) :=
  ⟨PE.wk (pe_split ho.pe he.pe hs hb hl) fun σ H Q _ h => by
    obtain ⟨ow, s, Qd, Ed, E, t, hQ, hE⟩ := h
    refine ⟨ow, s, _, Ed, E, t, fun r1 s1 q1 v H1 ow1 e1 E1 R1 => ?_, hE⟩
    obtain ⟨d1, h1, q1⟩ := bindO_some q1
    have V1 := view_ok E1 R1 h1
    cases d1 with
    | str x =>
      refine ⟨⟨x, V1.str⟩, ow1, s1, _, Ed, E1, q1, fun r2 s2 q2 v2 H2 ow2 e2 E2 R2 => ?_, hE.from e1⟩
      obtain ⟨d2, h2, q2⟩ := bindO_some q2
      obtain ⟨z, hz, q2⟩ := bindO_some q2
      have V2 := view_ok E2 R2 h2
      cases d2 with
      | str y =>
        obtain ⟨g, hz⟩ := ifB_some (show ifB _ _ = some z from hz)
        cases hz
        simp only [Bool.and_eq_true, decide_eq_true_eq, Bool.not_eq_true'] at g
        refine ⟨x, y, V1.str, by rw [V2.str], g.1, g.2, fun p hp => ?_⟩
        have e3 := e1.trans e2
        exact hQ _ _ q2 _ _ _ (e3.trans (Ext.new hp)) (E2.ext_new hp rfl) ⟨p, _, rfl, e3.free hp, ow1_same, upd_same, strs_rep _⟩
      | _ => cases hz
    | _ => exact q1.elim⟩
theorem pd_join (ho : PD G X W o to) (he : PD G X W e te) (hs : starEach [e] X.env = [(false, eval e X.env)] := by rfl) (hb : attributeBase o "join" X.env (eval o X.env) = eval o X.env := by rfl) (hl : (apos.endLine == pos.line) = true := by rfl) :
    PD G X W (.Call (.Attribute o "join" apos) [e] [] pos) (dMS gJoin to te) :=
  ⟨PE.wk (pe_join ho.pe he.pe hs hb hl) fun σ H Q _ h => by
    obtain ⟨ow, s, Qd, Ed, E, t, hQ, hE⟩ := h
    refine ⟨ow, s, _, Ed, E, t, fun r1 s1 q1 v H1 ow1 e1 E1 R1 => ?_, hE⟩
    obtain ⟨d1, h1, q1⟩ := bindO_some q1
    have V1 := view_ok E1 R1 h1
    cases d1 with
    | str x =>
      refine ⟨⟨x, V1.str⟩, ow1, s1, _, Ed, E1, q1, fun r2 s2 q2 v2 H2 ow2 e2 E2 R2 => ?_, hE.from e1⟩
      obtain ⟨d2, h2, q2⟩ := bindO_some q2
      obtain ⟨z, hz, q2⟩ := bindO_some q2
      have V2 := view_ok E2 R2 h2
      have fin : ∀ {l : List D} {xs : List V}, RepL G H2 ow2 l xs → (gJoin.bindR (strsD l) fun ys => ifB (decide ((ys.map (·.length)).sum + ys.length * x.length ≤ 16777216)) (some (.v (.str (Txt.join x ys))))) = some z →
          ∃ ys : List Str, xs = ys.map V.str ∧ (ys.map (·.length)).sum + ys.length * x.length ≤ 16777216 ∧ z = .v (.str (Txt.join x ys)) := by
        intro l xs r hz
        cases hs : strsD l with
        | none => rw [hs] at hz; cases hz
        | some ys =>
          rw [hs] at hz
          obtain ⟨g, hz⟩ := ifB_some (show ifB _ _ = some z from hz)
          cases hz
          exact ⟨ys, strsD_rep r hs, of_decide_eq_true g, rfl⟩
      cases d2 with
      | lst l =>
        obtain ⟨a, xs, rfl, t2, r2⟩ := V2
        obtain ⟨ys, rfl, g, rfl⟩ := fin r2 hz
        exact ⟨x, a, ys, V1.str, rfl, .inl (sqL_of t2), g, hQ _ _ q2 _ _ _ (e1.trans e2) E2 (by rw [RepR, Rep])⟩
      | lds l =>
        obtain ⟨a, xs, rfl, t2, r2⟩ := V2.lds
        obtain ⟨ys, rfl, g, rfl⟩ := fin r2 hz
        exact ⟨x, a, ys, V1.str, rfl, .inr t2.sq, g, hQ _ _ q2 _ _ _ (e1.trans e2) E2 (by rw [RepR, Rep])⟩
      | _ => cases hz
    | _ => exact q1.elim⟩
/-- int(text) -/
def gIntS : D → Option Rv := fun d => match d with
  | .str a => match intText? a with
    | some n => ifB (decide (a.length ≤ 640)) (some (.v (.int n)))
    | none => none
  | _ => none
theorem cd_intS : Cal1 G (fun xs H Q => ∃ a n, xs = [V.str a] ∧ intText? a = some n ∧ a.length ≤ 640 ∧ Q (V.int n) H) gIntS := by
  intro σ s ow ow0 H H0 x d1 z Q ft E e0 v1 hz F
  cases d1 with
  | str a =>
    cases hn : intText? a with
    | none => simp only [gIntS, hn] at hz; cases hz
    | some n =>
      simp only [gIntS, hn] at hz
      obtain ⟨g, hz⟩ := ifB_some hz
      cases hz
      exact ⟨a, n, by rw [v1.str], hn, of_decide_eq_true g, F.int E⟩
  | _ => cases hz
theorem pd_intS (hg : Gl X "int") (hm : X.mg "int" = none) (ha : PD G X W a ta) (he : starEach [a] X.env = (false, eval a X.env) :: starEach [] X.env := by rfl) : PD G X W (.Call (.Name "int" p) [a] [] pos) (dUn gIntS ta) :=
  pd_t1 cd_intS call_int_str (by decide +kernel) hg hm ha (he := he)
/-- the signs of a text are walked -/
def signsD (z : Str) : List D := z.cps.toList.map fun c => .str ⟨#[c]⟩
def dStrI (te : DE) : DI := fun s Q E => te s (fun r s1 => bindO (view s1 r) fun d => match d with
  | .str z => guardB (decide (z.length ≤ 16777216)) (Q (signsD z) s1)
  | _ => False) E
theorem yields_str {z : Str} {ow : OW} {H : Hp} (h : z.cps.size ≤ sizeLine) : Yields G (Its z) ow H (signsD z) where
  size := by simpa [signsD] using h
  stop := fun ow' H' _ => by
    have : (signsD z).length = z.cps.size := by simp [signsD]
    rw [this]
    exact walk_str.stops H' trivial
  go := fun ow' H' i d _ hd => by
    simp only [signsD, List.getElem?_map] at hd
    cases hc : z.cps.toList[i]? with
    | none => rw [hc] at hd; cases hd
    | some c =>
      rw [hc] at hd
      cases hd
      have hi : i < z.cps.size := by
        have := (List.getElem?_eq_some_iff.mp hc).1
        simpa using this
      refine ⟨walk_str.goes i H' hi trivial, fun x H'' hy => ?_⟩
      obtain ⟨rfl, c', hc', rfl⟩ := walk_str.yields i H' x H'' hi trivial hy
      have : c' = c := by
        have h2 : z.cps.toList[i]? = some c' := by simpa using hc'
        rw [hc] at h2
        cases h2
        rfl
      subst this
      exact ⟨ow', Ext.refl _ _, fun σ s E => E, by rw [Rep]⟩
theorem pdi_str (h : PD G X W e te) : PDI G X W tg e (dStrI te) := ⟨PI.wk (pi_str h.pe) fun σ H R _ hq => by
  obtain ⟨ow, s, Qd, Ed, E, t, hQ, hE⟩ := hq
  refine ⟨ow, s, _, Ed, E, t, fun r s1 q1 v H1 ow1 e1 E1 R1 => ?_, hE⟩
  obtain ⟨d, hd, q1⟩ := bindO_some q1
  have V1 := view_ok E1 R1 hd
  cases d with
  | str z =>
    obtain ⟨g, q1⟩ := guardB_and q1
    exact ⟨z, V1.str, hQ _ _ q1 _ _ _ e1 E1 (yields_str (by have := of_decide_eq_true g; rw [sizeLine_eq]; exact this))⟩
  | _ => exact q1.elim⟩
end
end DL
namespace DL
open PySem PySem.Spec PyProof.Rows L2

/-! ### text * int -/
def rMulS : R2 := fun x y H Q => ∃ a n, x = .str a ∧ y = .int n ∧ MulOk a n ∧ Q (.str (Txt.mul a n)) H
theorem op_mulS {X : Cx} : OpR X (binaryOp .Mult) rMulS := by
  intro pins s σ H x y v u Q I rx ry h
  obtain ⟨a, n, rfl, rfl, hm, q⟩ := h
  obtain ⟨t, rfl⟩ := rx
  obtain ⟨t', rfl⟩ := ry
  exact SB.mul hm fun tk k => ⟨.str _, H, I.tok k, ⟨tk, rfl⟩, q⟩
def mulOk (x : Str) (n : Int) : Bool := decide (1 ≤ n) && decide (n ≤ 100000) && decide (x.length ≤ 100)
theorem mulOk_ok {x : Str} {n : Int} (h : mulOk x n = true) (hl : Builtin.Str.tooLong (x.length * n.toNat) = false) : MulOk x n := by
  simp only [mulOk, Bool.and_eq_true, decide_eq_true_eq] at h
  obtain ⟨⟨h1, h2⟩, h3⟩ := h
  refine ⟨by rw [decide_eq_false (by omega), decide_eq_false (by omega)]; rfl, fun _ _ => ?_, fun _ _ => hl⟩
  have : n ≤ 100000 := h2
  have k : (100 : Int) ≤ (2 ^ 63 - 1) / n := by
    have : (100 : Int) * n ≤ 2 ^ 63 - 1 := by omega
    exact Int.le_ediv_of_mul_le (by omega) this
  omega
def gMulS : DOp := fun d e => match d, e with
  | .str a, .int n => ifB (mulOk a n && !Builtin.Str.tooLong (a.length * n.toNat)) (some (.v (.str (Txt.mul a n))))
  | _, _ => none
theorem od_mulS {G : GT} : OpD G rMulS gMulS := by
  intro σ s ow ow0 H H0 x y d1 d2 z Q ft E e0 v1 v2 hz F
  cases d1 with
  | str a =>
    cases d2 with
    | int n =>
      obtain ⟨g, hz⟩ := ifB_some (show ifB _ _ = some z from hz)
      cases hz
      simp only [Bool.and_eq_true, Bool.not_eq_true'] at g
      exact ⟨a, n, v1.str, v2.int, mulOk_ok g.1 g.2, F.str E⟩
    | _ => cases hz
  | _ => cases hz

/-! ### f"..." -/
def dFmt (te : DE) : DE := fun s Q E => te s (fun r s1 => bindO (view s1 r) fun d => match d with
  | .str y => guardB (fitN y.length) (Q (.v (.str y)) s1)
  | .int i => guardB (decide (i.natAbs.log2 < 1920)) (Q (.v (.str (Str.ofString (toString i)))) s1)
  | _ => False) E
def dJs : List DE → Str → Sd → (Str → Sd → Prop) → DX → Prop
  | [], acc, s, Q, _ => Q acc s
  | t :: ts, acc, s, Q, E => t s (fun r s1 => bindO (view s1 r) fun d => match d with
    | .str y => guardB (fitN (acc ++ y).length) (dJs ts (acc ++ y) s1 Q E)
    | _ => False) E
def dJoined (ts : List DE) : DE := fun s Q E => dJs ts Str.empty s (fun out s1 => Q (.v (.str out)) s1) E
section
variable {G : GT} {X : Cx} {W : WX} {e : Expr} {es : List Expr} {te : DE} {ts : List DE} {pos : Pos}
theorem pd_fmt (he : PD G X W e te) : PD G X W (.FormattedValue e (-1) none pos) (dFmt te) :=
  ⟨PE.wk (pe_fmt he.pe) fun σ H Q _ h => by
    obtain ⟨ow, s, Qd, Ed, E, t, hQ, hE⟩ := h
    refine ⟨ow, s, _, Ed, E, t, fun r1 s1 q1 v H1 ow1 e1 E1 R1 => ?_, hE⟩
    obtain ⟨d1, h1, q1⟩ := bindO_some q1
    have V1 := view_ok E1 R1 h1
    cases d1 with
    | str y =>
      obtain ⟨g, q1⟩ := guardB_and q1
      exact .inl ⟨y, V1.str, fitN_le g, hQ _ _ q1 _ _ _ e1 E1 (by rw [RepR, Rep])⟩
    | int i =>
      obtain ⟨g, q1⟩ := guardB_and q1
      exact .inr ⟨i, V1.int, of_decide_eq_true g, hQ _ _ q1 _ _ _ e1 E1 (by rw [RepR, Rep])⟩
    | _ => exact q1.elim⟩
structure PDJ (G : GT) (X : Cx) (W : WX) (es : List Expr) (ts : List DE) : Prop where
  pj : PJ X es (ts.map (liftE G W))
theorem pdj_nil : PDJ G X W [] [] := ⟨.nil⟩
theorem pdj_cons (he : PD G X W e te) (h : PDJ G X W es ts) : PDJ G X W (e :: es) (te :: ts) := ⟨.cons he.pe h.pj⟩
theorem js_lift : ∀ {ts : List DE} {acc : Str} {ow : OW} {s : Sd} {σ : L2.St} {H : Hp} {Qd : Str → Sd → Prop} {Ed : DX} {Q : Str → Hp → Prop}, ER G ow H σ s → dJs ts acc s Qd Ed →
    (∀ out s', Qd out s' → ∀ H' ow', Ext ow H ow' H' → ER G ow' H' σ s' → Q out H') → exW G W ow H σ Ed → tJs (ts.map (liftE G W)) acc σ H Q
  | [], acc, ow, s, σ, H, Qd, Ed, Q, E, t, hQ, hE => by
    rw [List.map_nil, tJs]
    exact hQ _ _ t _ _ (Ext.refl _ _) E
  | te :: ts, acc, ow, s, σ, H, Qd, Ed, Q, E, t, hQ, hE => by
    rw [List.map_cons, tJs]
    refine ⟨ow, s, _, Ed, E, t, fun r1 s1 q1 v H1 ow1 e1 E1 R1 => ?_, hE⟩
    obtain ⟨d1, h1, q1⟩ := bindO_some q1
    have V1 := view_ok E1 R1 h1
    cases d1 with
    | str y =>
      obtain ⟨g, q1⟩ := guardB_and q1
      exact ⟨y, V1.str, fitN_le g, js_lift E1 q1 (fun out s' q H' ow' e' E' => hQ out s' q H' ow' (e1.trans e') E') (hE.from e1)⟩
    | _ => exact q1.elim
theorem pd_joined {v1 v2 : Expr} {rest : List Expr} (h : PDJ G X W (v1 :: v2 :: rest) ts) : PD G X W (.JoinedStr (v1 :: v2 :: rest) pos) (dJoined ts) :=
  ⟨PE.wk (pe_joined h.pj) fun σ H Q _ hq => by
    obtain ⟨ow, s, Qd, Ed, E, t, hQ, hE⟩ := hq
    exact js_lift E t (fun out s' q H' ow' e' E' => hQ _ _ q _ _ _ e' E' (by rw [RepR, Rep])) hE⟩
end

/-! ### a def of the module as a value, and its call through a name of the frame -/
/-- def number k -/
structure FnV (G : GT) (P : Program) (w : World) (K : PySem.W.Frag) (mg : Str → Option Value) (base : Heap) (lv : Nat) (k : Nat) (m : Nat) (F : Den) : Prop where
  ex : ∃ (x : Str) (dds : List D), Callee G P w K mg base lv x (m + dds.length) F dds ∧ mg x = some (.ref (G (20 + k)))
section
variable {G : GT} {X : Cx} {W : WX} {e : Expr} {es : List Expr} {x : Str} {p pos : Pos} {lv k i : Nat} {F : Den} {t : DA}
/-- the name of a def, as a value -/
theorem pd_fn (k : Nat) (hm : X.mg x = some (.ref (G (20 + k)))) (hg : Gl X x := by rfl) (hd : (x == ("__debug__" : Str)) = false := by decide) : PD G X W (.Name x p) (dC (.fn k)) :=
  ⟨PE.wk (pe_glob (v := .ref (G (20 + k))) hg hm rfl hd) fun σ H Q _ h => by
    obtain ⟨ow, s, Qd, Ed, E, t, hQ, hE⟩ := h
    exact hQ _ _ t _ _ _ (Ext.refl _ _) E (by rw [RepR, Rep])⟩
end
end DL
namespace DL
open PySem PySem.Spec PyProof.Rows L2

/-! ### a call through a name of the frame that holds a def -/
section
variable {G : GT} {X : Cx} {W : WX} {k i : Nat} {x : Str} {p pos : Pos} {e : Expr} {es : List Expr} {t : DA} {ta : TA}
theorem pe_callV {E : L2.St → XK} (hr : Room k X.A) (hgd : X.A.guards = some []) (hN : X.N[i]? = some x) (hv : Vis X.env.scope x) (hx : ∀ σ, PassesAt (L2.CX X.prog X.w) X σ (E σ))
    (ha : PA X (e :: es) ta) (hdb : (x == ("__debug__" : Str)) = false := by decide) (hcd : (x == ("__classdict__" : Str)) = false := by decide) (he : starEach (e :: es) X.env = (false, eval e X.env) :: starEach es X.env := by rfl) (hpl : (backTo pos (starEach es X.env)).any (·.1) = false := by rfl) :
    PE X (.Call (.Name x p) (e :: es) [] pos) (fun σ H Q => ∃ (f : Addr) (fd : FuncData) (ps : List Str) (sp : Sp) (dvs : List V) (us0 : List Value), σ[i]? = some (some (.ref f)) ∧ FnG X.prog X.w X.K X.mg X.base k f fd ps sp ∧ PySem.W.keepIn X.K (.ref f) = true ∧ Binds X.K fd ps us0 ∧ Vals dvs us0 ∧
      ta σ H fun vs H1 => sp (vs ++ dvs) H1 Q (E σ)) := by
  refine ⟨fun pins s σ H Q I h => ?_⟩
  obtain ⟨f, fd, ps, sp, dvs, us0, hs, F, hk, hb, hd, ht⟩ := h
  refine wpAny_Call_Name_kw (thn ((pe_var hN hv hdb hcd).run pins s σ H (fun v H1 => v = V.ref f ∧ H1 = H) I ⟨V.ref f, hs, rfl, rfl⟩) fun u s1 hh => ?_)
  obtain ⟨v, H1, I1, r1, rfl, rfl⟩ := hh
  cases (show u = Value.ref f from r1)
  exact PySem.W.callWith_K (h₀ := X.base) I.ok.mod.kin hk (thn (ha.run pos pins s1 σ H1 _ I1 ht) fun us s2 ⟨vs, H2, I2, r, q⟩ => ⟨I2.kIn, run_fnG F hr hgd hb hd (hx σ) I2 r q⟩) he hpl
def dCallV (tbl : Nat → Option (Den × List D)) (i n : Nat) (t : DA) : DE := fun s Q E => match nthO s.e i with
  | some (.v (.fn k)) => (match tbl k with
    | some (F, dds) => t s (fun ds s1 => guardB (ds.length == n) (F (ds ++ dds) s1.g (fun r g' => Q r ⟨s1.e, g'⟩) (fun x g' => E x ⟨s1.e, g'⟩))) E
    | none => False)
  | _ => False
/-- the defs that are handed on as values -/
structure FnT (G : GT) (P : Program) (w : World) (K : PySem.W.Frag) (mg : Str → Option Value) (base : Heap) (k n : Nat) (tbl : Nat → Option (Den × List D)) : Prop where
  ex : ∀ j F dds, tbl j = some (F, dds) → ∃ (fd : FuncData) (us : List Value) (dvs : List V) (ps : List Str), PySem.W.keepIn K (.ref (G (20 + j))) = true ∧ Binds K fd ps us ∧ DV G dds dvs us ∧ DFn G P w K mg base k (G (20 + j)) fd ps F ∧ ps.length = n + dds.length
theorem pd_callV (n : Nat) {tbl : Nat → Option (Den × List D)} (T : FnT G X.prog X.w X.K X.mg X.base k n tbl) (hr : Room k X.A) (hgd : X.A.guards = some []) (tk : Takes X W) (ha : PDA G X W (e :: es) t)
    (hN : X.N[i]? = some x := by rfl) (hv : Vis X.env.scope x := by first | exact Or.inl rfl | exact Or.inr (Or.inl rfl) | exact Or.inr (Or.inr rfl))
    (hdb : (x == ("__debug__" : Str)) = false := by decide) (hcd : (x == ("__classdict__" : Str)) = false := by decide) (he : starEach (e :: es) X.env = (false, eval e X.env) :: starEach es X.env := by rfl) (hpl : (backTo pos (starEach es X.env)).any (·.1) = false := by rfl) :
    PD G X W (.Call (.Name x p) (e :: es) [] pos) (dCallV tbl i n t) :=
  ⟨PE.wk (pe_callV hr hgd hN hv (fun σ => passAt tk σ) ha.pa hdb hcd he hpl) fun σ H Q _ h => by
    obtain ⟨ow, s, Qd, Ed, E, q, hQ, hE⟩ := h
    cases z : nthO s.e i with
    | none => simp only [dCallV, z] at q
    | some sv =>
      cases sv with
      | v d =>
        cases d with
        | fn j =>
          cases ht : tbl j with
          | none => simp only [dCallV, z, ht] at q
          | some Fd =>
            obtain ⟨F, dds⟩ := Fd
            simp only [dCallV, z, ht] at q
            obtain ⟨v, g1, g2⟩ := E.get z
            have g3 : Rep G H ow (.fn j) v := g2
            rw [Rep] at g3
            subst g3
            obtain ⟨fd, us, dvs, ps, h1, h2, h3, h4, h5⟩ := T.ex j F dds ht
            refine ⟨_, fd, ps, _, dvs, us, g1, h4.fn, h1, h2, h3.1, ?_⟩
            refine ⟨ow, s, _, _, E, q, fun ds s1 q1 vs H1 ow1 e1 E1 R1 => ?_, hE⟩
            obtain ⟨ql, q1⟩ := guardB_and q1
            have ql := beq_iff_eq.mp ql
            refine ⟨farO ow1, ds ++ dds, s1.g, _, _, fun b => farO_slot, by rw [List.length_append, ql, h5], E1.gr.om farO_om, (RepL.om farO_om ds vs R1).append (h3.2 _ _), q1, fun r g' qr v H2 ow2 e2 g2 R2 => ?_, fun x g' qx c d H2 ow2 e2 g2 R2 => ?_⟩
            · exact hQ _ _ qr _ _ _ (e1.trans (backO_ext e2)) (backO_er e2 E1 g2) ((backO_repR e2 R2).from e1)
            · exact hE _ _ qx _ _ _ _ (e1.trans (backO_ext e2)) (backO_er e2 E1 g2) (R2.om (backO_om e2))
        | _ => simp only [dCallV, z] at q
      | _ => simp only [dCallV, z] at q⟩
end

/-! ### defs with defaults -/
theorem dfn_ofD {G : GT} {P : Program} {w : World} {K : PySem.W.Frag} {mg : Str → Option Value} {base : Heap} {k : Nat} {f : Addr} {x qual : Str} {st : Stmt} {dvs : List V} {kws : List (Str × V)} {fd : FuncData} {N ps : List Str} {t : DS} (F : FunD K x qual (defArgs st) (defBody st) (defScope st) dvs kws f fd) (S : FnScope N ps (defScope st))
    (hbody : ∀ (cdv : Value) (A : Around) (outer : List Env) (s : Shared) (H : Hp) (E : XK), Room k (A.deeper (envOfC qual (defScope st) s.heap.objs.size f cdv)) → A.guards = some [] →
      Takes (cxOf (L2.CX P w) P w K mg base N qual (defScope st) f cdv A outer s H E) (fun c d _ H' => E c d H') →
      PDSs G (cxOf (L2.CX P w) P w K mg base N qual (defScope st) f cdv A outer s H E) (fun c d _ H' => E c d H') (defBody st) t) : DFn G P w K mg base (k + 1) f fd ps (dFn N.length t) := by
  obtain ⟨oc, od, dV, kV, doc, pm, an, cdv, ct, osl, rfl, lk, hcd, _, _⟩ := F.ex
  refine ⟨fnG_of lk hcd S (fun vs H Q E h => ?_) fun A outer s H vs Q E hr hg h => ?_⟩
  · obtain ⟨ow, ds, g, Qd, Ed, h1, h2, h3, h4, _⟩ := h
    rw [h4.length, h2]
  · obtain ⟨ow, ds, g, Qd, Ed, h1, h2, h3, h4, h5, h6, h7⟩ := h
    refine ⟨_, (hbody cdv A outer s H E hr hg (takes_of rfl rfl rfl rfl)).ps, ?_⟩
    refine ⟨ow, _, _, er_start h4 h3, h5, ⟨fun s1 q1 σ1 H1 ow1 e1 E1 => h6 _ _ q1 _ _ _ e1 E1.gr (by rw [RepR, Rep]), fun r s1 q1 v σ1 H1 ow1 e1 E1 R1 => ?_, fun _ z => z.elim, fun _ z => z.elim, fun x s1 q1 c d σ1 H1 ow1 e1 E1 R1 => h7 _ _ q1 _ _ _ _ e1 E1.gr R1⟩⟩
    obtain ⟨r', hr', q1⟩ := bindO_some q1
    obtain ⟨ow2, e2, g2, R2⟩ := out_ok h1 e1 E1 R1 hr'
    exact h6 _ _ q1 _ _ _ e2 g2 R2
/-- a def whose last parameters have defaults, called with the others alone -/
theorem callee_ofD {G : GT} {P : Program} {w : World} {K : PySem.W.Frag} {mg : Str → Option Value} {base : Heap} {k n : Nat} {f : Addr} {x y : Str} {st : Stmt} {fd : FuncData} {N ps : List Str} {t : DS} {dvs : List V} {dds : List D} (hm : mg y = some (.ref f)) (F : FunD K x x (defArgs st) (defBody st) (defScope st) dvs [] f fd) (S : FnScope N ps (defScope st))
    (hd : ∀ H ow, RepL G H ow dds dvs) (hne : dvs ≠ []) (hl : n + dvs.length = ps.length)
    (hb : ∀ (T : Addr) (kV doc pm : Value) (an : Option Addr) (cdv ct : Value) (us its : List Value), us.length = n → its.length = dvs.length →
      ∃ k, bindArgs (PySem.W.fnOf x x (defArgs st) (defBody st) (defScope st) (.ref T) kV doc pm an cdv ct) ⟨us, []⟩ = seqItems? (.ref T) >>= k ∧ k (some its.toArray) = pure (ps.zip (us ++ its)))
    (hbody : ∀ (cdv : Value) (A : Around) (outer : List Env) (s : Shared) (H : Hp) (E : XK), Room k (A.deeper (envOfC x (defScope st) s.heap.objs.size f cdv)) → (A.deeper (envOfC x (defScope st) s.heap.objs.size f cdv)).guards = some [] →
      Takes (cxOf (L2.CX P w) P w K mg base N x (defScope st) f cdv A outer s H E) (fun c d _ H' => E c d H') →
      PDSs G (cxOf (L2.CX P w) P w K mg base N x (defScope st) f cdv A outer s H E) (fun c d _ H' => E c d H') (defBody st) t) : Callee G P w K mg base (k + 1) y ps.length (dFn N.length t) dds := by
  obtain ⟨us0, hv, hB⟩ := F.binds1 n 0 hne (by rw [Nat.sub_zero]; exact hl) fun T kV doc pm an cdv ct us its h1 h2 => by
    obtain ⟨k, e1, e2⟩ := hb T kV doc pm an cdv ct us its h1 h2
    exact ⟨k, e1, by rw [e2]; rfl⟩
  exact ⟨f, fd, us0, dvs, ps, hm, F.kp, hB, ⟨hv, hd⟩, dfn_ofD F S fun cdv A outer s H E hr hg tk => hbody cdv A outer s H E hr hg tk, rfl⟩
theorem rep_ints {G : GT} {H : Hp} {ow : OW} : ∀ ns : List Int, RepL G H ow (ns.map D.int) (ns.map V.int)
  | [] => RepL.nil
  | n :: ns => by
    rw [List.map_cons, List.map_cons, RepL]
    exact ⟨_, _, rfl, by rw [Rep], rep_ints ns⟩
theorem fnt_of {G : GT} {P : Program} {w : World} {K : PySem.W.Frag} {mg : Str → Option Value} {base : Heap} {lv n m j : Nat} {x : Str} {F : Den} {dds : List D} (C : Callee G P w K mg base lv x m F dds) (h : mg x = some (.ref (G (20 + j)))) (hm : m = n + dds.length) :
    ∃ (fd : FuncData) (us : List Value) (dvs : List V) (ps : List Str), PySem.W.keepIn K (.ref (G (20 + j))) = true ∧ Binds K fd ps us ∧ DV G dds dvs us ∧ DFn G P w K mg base lv (G (20 + j)) fd ps F ∧ ps.length = n + dds.length := by
  obtain ⟨f, fd, us, dvs, ps, h1, h2, h3, h4, h5, h6⟩ := C.ex
  rw [h] at h1
  cases h1
  exact ⟨fd, us, dvs, ps, h2, h3, h4, h5, by rw [h6, hm]⟩
end DL
namespace DL
open PySem PySem.Spec PyProof.Rows L2

/-! ### the slots that a lambda can see -/
structure Clo where
  f : Nat
  c : Nat
  q : Str
  ds : List D
  vs : List V
def Clo.d (J : Clo) : D := .clo J.f J.c J.q J.ds J.vs
def keepE (e : List (Option Sv)) : List (Option Sv) := e.map keepV
def cloD : List (Option Sv) → List D
  | [] => []
  | some (.v d) :: e => d :: cloD e
  | some (.ol _) :: e => cloD e
  | some (.od _ _ _) :: e => cloD e
  | none :: e => cloD e
def cloV : List (Option Sv) → L2.St → List V
  | some (.v _) :: e, some v :: σ => v :: cloV e σ
  | some (.v _) :: _, none :: _ => []
  | some (.ol _) :: e, _ :: σ => cloV e σ
  | some (.od _ _ _) :: e, _ :: σ => cloV e σ
  | none :: e, _ :: σ => cloV e σ
  | _, [] => []
  | [], _ => []
def SlotsV (e : List (Option Sv)) (σ : L2.St) : Prop := e.length = σ.length ∧ ∀ (i : Nat) (d : D), e[i]? = some (some (Sv.v d)) → ∃ v, σ[i]? = some (some v)
section
variable {G : GT} {ow : OW} {H : Hp}
theorem SlotsV.tail {x : Option Sv} {y : Option V} {e : List (Option Sv)} {σ : L2.St} (h : SlotsV (x :: e) (y :: σ)) : SlotsV e σ :=
  ⟨by have := h.1; simpa using this, fun i d hi => by have := h.2 (i + 1) d (by simpa using hi); simpa using this⟩
theorem clo_rep : ∀ {e : List (Option Sv)} {σ : L2.St}, e.length = σ.length → (∀ (i : Nat) (d : D), e[i]? = some (some (Sv.v d)) → ∃ v, σ[i]? = some (some v) ∧ Rep G H ow d v) → RepL G H ow (cloD e) (cloV e σ)
  | [], [], _, _ => by rw [cloD, cloV]; exact RepL.nil
  | [], _ :: _, h, _ => by simp at h
  | _ :: _, [], h, _ => by simp at h
  | x :: e, y :: σ, hl, h => by
    have ih : RepL G H ow (cloD e) (cloV e σ) := clo_rep (by simpa using hl) fun i d hi => by
      obtain ⟨v, h1, h2⟩ := h (i + 1) d (by simpa using hi)
      exact ⟨v, by simpa using h1, h2⟩
    cases x with
    | none => exact ih
    | some sv =>
      cases sv with
      | v d =>
        obtain ⟨v, h1, h2⟩ := h 0 d rfl
        have e1 : y = some v := by simpa using h1
        subst e1
        exact RepL.cons h2 ih
      | ol l => exact ih
      | od tb ks vs => exact ih
theorem clo_back : ∀ {e : List (Option Sv)} {σ : L2.St}, SlotsV e σ → RepL G H ow (cloD e) (cloV e σ) → ∀ (i : Nat) (d : D), e[i]? = some (some (Sv.v d)) → ∃ v, σ[i]? = some (some v) ∧ Rep G H ow d v
  | [], _, _, _, i, d, hi => by simp at hi
  | _ :: _, [], h, _, i, d, hi => by have := h.1; simp at this
  | x :: e, y :: σ, hs, h, i, d, hi => by
    have go : RepL G H ow (cloD e) (cloV e σ) → i ≠ 0 → ∃ v, (y :: σ)[i]? = some (some v) ∧ Rep G H ow d v := fun h' hi0 => by
      obtain ⟨j, rfl⟩ := Nat.exists_eq_succ_of_ne_zero hi0
      have := clo_back hs.tail h' j d (by simpa using hi)
      simpa using this
    cases x with
    | none =>
      refine go h ?_
      rintro rfl
      simp at hi
    | some sv =>
      cases sv with
      | v d' =>
        obtain ⟨v, hv⟩ := hs.2 0 d' rfl
        have e1 : y = some v := by simpa using hv
        subst e1
        have h' : RepL G H ow (d' :: cloD e) (v :: cloV e σ) := h
        rw [RepL] at h'
        obtain ⟨z, r, e2, r1, r2⟩ := h'
        cases e2
        by_cases hi0 : i = 0
        · subst hi0
          have : d' = d := by simpa using hi
          subst this
          exact ⟨v, rfl, r1⟩
        · exact go r2 hi0
      | ol l =>
        refine go h ?_
        rintro rfl
        simp at hi
      | od tb ks vs =>
        refine go h ?_
        rintro rfl
        simp at hi
theorem ER.slots {σ : L2.St} {s : Sd} (E : ER G ow H σ s) : SlotsV s.e σ := ⟨E.len.symm, fun i d hi => by obtain ⟨v, h1, _⟩ := E.sl i _ hi; exact ⟨v, h1⟩⟩
theorem ER.clo {σ : L2.St} {s : Sd} (E : ER G ow H σ s) : RepL G H ow (cloD s.e) (cloV s.e σ) := clo_rep E.len.symm fun i d hi => by obtain ⟨v, h1, h2⟩ := E.sl i _ hi; exact ⟨v, h1, h2⟩
theorem er_keep {e : List (Option Sv)} {σ : L2.St} {g : Gst} (hs : SlotsV e σ) (h : RepL G H ow (cloD e) (cloV e σ)) (gr : GR G ow H g) : ER G ow H σ ⟨keepE e, g⟩ where
  len := by
    show σ.length = (e.map keepV).length
    rw [List.length_map]
    exact hs.1.symm
  sl := fun i sv hi => by
    have hi' : (e.map keepV)[i]? = some (some sv) := hi
    rw [List.getElem?_map] at hi'
    cases q : e[i]? with
    | none => rw [q] at hi'; cases hi'
    | some o =>
      rw [q] at hi'
      cases o with
      | none => cases hi'
      | some u =>
        cases u with
        | v d =>
          cases hi'
          exact clo_back hs h i d q
        | ol l => cases hi'
        | od tb ks vs => cases hi'
  gr := gr
end
/-- a lambda's call: what its body tells in the maker's slots -/
def denL (tb : DE) (e : List (Option Sv)) : Den := fun _ g Q E => tb ⟨keepE e, g⟩ (fun r s => bindO (outR s r) fun r' => Q r' s.g) (fun x s => E x s.g)
def dCallL (J : Clo) (L : Den) (i : Nat) : DE := fun s Q E => match nthO s.e i with
  | some (.v (.clo f c q ds vs)) => Clo.mk f c q ds vs = J ∧ L [] s.g (fun r g' => Q r ⟨s.e, g'⟩) (fun x g' => E x ⟨s.e, g'⟩)
  | _ => False
def dLam (FL : Clo → Den → Den) (tb : DE) : DE := fun s Q E => ∀ J : Clo, J.ds = cloD s.e → FL J (denL tb s.e) [J.d] s.g (fun r g' => Q r ⟨s.e, g'⟩) (fun x g' => E x ⟨s.e, g'⟩)

/-! ### the function object of a lambda; dV: its defaults -/
abbrev lamFn (q : Str) (params : Arguments) (body : Expr) (scope : Scope) (cl : List (Str × Addr)) (pm cdv ct dV : Value) : FuncData := { PySem.W.kla_fn "<lambda>" q params body scope cl pm cdv ct with defaults := dV }
abbrev lamObj (q : Str) (params : Arguments) (body : Expr) (scope : Scope) (cl : List (Str × Addr)) (pm : Value) (c' : Addr) (ctv dV : Value) : Obj := { cls := .type "function", data := .func (lamFn q params body scope cl pm (.ref c') ctv dV) }
section
variable {M : Model} {A : Around} {E : Value → Shared → Prop} {s : Shared} {qual : Str} {params : Arguments} {body : Expr} {scope : Scope} {env : Env} {c P : Addr} {ps : Array Value} {pos : Pos} {firstLine : Nat} {mg : Str → Option Value}
  {clos : List (Str × Addr)} {Q : Value → Shared → Prop} {dV : Value}
theorem lam_tail (hcl : closureFor scope env = pure clos) (hge0 : env.globals = mainGlobals) (hg : s.heap.Ns mainGlobals mg) (hcode : env.code = .ref c) (C : PySem.W.CodeHd s.heap c P) (hP : s.heap.get? P = some (PySem.W.tabObj ps)) (ht : TriplesOk ps.toList)
    (hnf : codeAmong pos ps.toList = none) (hgP : mainGlobals ≠ P) (hb : s.heap.BuiltinsAt mg P)
    (h : ∀ c' ctv h' tk, Heap.ExtBut P s.heap h' → s.heap.objs.size ≤ c' → c' < h'.objs.size → h'.CodeRec (.ref c') qual → h'.get? P = some (PySem.W.tabObj (ps ++ #[rawInt pos.line, rawInt pos.col, .ref c'])) →
      Q (.ref h'.objs.size) { s with heap := h'.push (lamObj qual params body scope clos ((mg "__name__").getD .none) c' ctv dV), toks := tk }) :
    wpAny M A (makeTail "<lambda>" qual params (.expr body) scope env dV .none none pos firstLine) Q E s := by
  obtain ⟨bm, ob, b1, b2, _, b3, b4, b5, b6, b7⟩ := hb
  unfold makeTail
  rw [hcl, hge0]
  refine wpAny_bind (wpAny_pure ?_)
  by_cases hn : clos.isEmpty = true
  · rw [if_pos hn]
    refine wpAny_bind (wpAny_pure ?_)
    refine wpAny_bind (wpAny_functionCodeX hcode (C.code hP ht) (C.tab hP) hnf fun c' h' tk hx hge hlt _ hrec htb _ => ?_)
    have hg' := hg.extBut hx hgP
    refine wpAny_bind (wpAny_builtinsFor hg' b1 b2 (hx _ _ b3 b4) b5 b6 b7 ?_)
    exact wpAny_bind (wpAny_nsGet hg' (wpAny_bind (wpAny_pure (wpAny_newObj_type (h c' .none h' tk hx hge hlt hrec htb.2) (by size_fits)))))
  · rw [if_neg hn]
    refine wpAny_bind (wpAny_newTextTuple ?_)
    have k0 : ∀ {oT : Obj} b o, s.heap.get? b = some o → (s.heap.push oT).get? b = some o := fun b o e => Heap.get?_push_of_some _ e
    refine wpAny_bind (wpAny_functionCodeX hcode ((C.keeps k0).code (k0 _ _ hP) ht) ((C.keeps k0).tab (k0 _ _ hP)) hnf fun c' h' tk hx hge hlt _ hrec htb _ => ?_)
    have hg' := (hg.push _).extBut hx hgP
    have hx' : Heap.ExtBut P s.heap h' := fun b o hb' e => hx b o hb' (k0 _ _ e)
    have hge' : s.heap.objs.size ≤ c' := Nat.le_trans (by rw [Heap.size_push]; omega) hge
    refine wpAny_bind (wpAny_builtinsFor hg' b1 b2 (hx' _ _ b3 b4) b5 b6 b7 ?_)
    exact wpAny_bind (wpAny_nsGet hg' (wpAny_bind (wpAny_pure (wpAny_newObj_type (h c' _ h' tk hx' hge' hlt hrec htb.2) (by size_fits)))))
theorem lam_tailHit {cv : Value} (hcl : closureFor scope env = pure clos) (hge0 : env.globals = mainGlobals) (hg : s.heap.Ns mainGlobals mg) (hcode : env.code = .ref c) (C : PySem.W.CodeHd s.heap c P) (hP : s.heap.get? P = some (PySem.W.tabObj ps)) (ht : TriplesOk ps.toList)
    (hf : codeAmong pos ps.toList = some cv) (hb : s.heap.BuiltinsAt mg P)
    (h : ∀ (ctv : Value) (h' : Heap) (tk : Tok), (∀ b o, s.heap.get? b = some o → h'.get? b = some o) → s.heap.objs.size ≤ h'.objs.size →
      Q (.ref h'.objs.size) { s with heap := h'.push { cls := .type "function", data := .func (lamFn qual params body scope clos ((mg "__name__").getD .none) cv ctv dV) }, toks := tk }) :
    wpAny M A (makeTail "<lambda>" qual params (.expr body) scope env dV .none none pos firstLine) Q E s := by
  obtain ⟨bm, ob, b1, b2, _, b3, b4, b5, b6, b7⟩ := hb
  unfold makeTail
  rw [hcl, hge0]
  refine wpAny_bind (wpAny_pure ?_)
  by_cases hn : clos.isEmpty = true
  · rw [if_pos hn]
    refine wpAny_bind (wpAny_pure ?_)
    refine wpAny_bind (wpAny_functionCode_hit hcode (C.code hP ht) hf ?_)
    refine wpAny_bind (wpAny_builtinsFor hg b1 b2 b4 b5 b6 b7 ?_)
    exact wpAny_bind (wpAny_nsGet hg (wpAny_bind (wpAny_pure (wpAny_newObj_type (h .none s.heap s.toks (fun _ _ e => e) (Nat.le_refl _)) (by size_fits)))))
  · rw [if_neg hn]
    refine wpAny_bind (wpAny_newTextTuple ?_)
    have k0 : ∀ {oT : Obj} b o, s.heap.get? b = some o → (s.heap.push oT).get? b = some o := fun b o e => Heap.get?_push_of_some _ e
    refine wpAny_bind (wpAny_functionCode_hit hcode ((C.keeps k0).code (k0 _ _ hP) ht) hf ?_)
    refine wpAny_bind (wpAny_builtinsFor (hg.push _) b1 b2 (k0 _ _ b4) b5 b6 b7 ?_)
    have hsz : ∀ oT : Obj, s.heap.objs.size ≤ (s.heap.push oT).objs.size := fun oT => by rw [Heap.size_push]; omega
    exact wpAny_bind (wpAny_nsGet (hg.push _) (wpAny_bind (wpAny_pure (wpAny_newObj_type (h _ _ s.toks k0 (hsz _)) (by size_fits)))))
end
end DL
namespace DL
open PySem PySem.Spec PyProof.Rows L2

/-! ### a lambda is made -/
abbrev tup1 (us : List Value) : Obj := { cls := .type "tuple", data := .seq us.toArray }
/-- its defaults -/
def DfOk (X : Cx) (H : Hp) (s : Shared) (dV : Value) (us : List Value) : Prop := (us = [] ∧ dV = .none) ∨ (us ≠ [] ∧ ∃ T : Addr, dV = .ref T ∧ s.heap.get? T = some (tup1 us) ∧ H T = none ∧ T ∉ frs X.stack)
/-- the defaults' expressions -/
def LamDef (params : Arguments) (env : Env) (n : Nat) : Prop := (n = 0 ∧ defaultsOf params env = ([], [])) ∨ (n = 1 ∧ ∃ (i : Int) (j : Nat) (p : Pos), defaultsOf params env = ([eval (.Constant (.int i) j p) env], []))
/-- what becomes of the table -/
def Made (H : Hp) (P : Addr) (ps : Array Value) (pos : Pos) (c' : Addr) (q : Str) (H1 : Hp) : Prop := (H1 = H ∧ codeAmong pos ps.toList = some (.ref c')) ∨ (H1 = upd (upd H P (.tbl (ps ++ #[rawInt pos.line, rawInt pos.col, .ref c']))) c' (LamX.CodeO c' q) ∧ H c' = none)
section
variable {X : Cx} {pins : List (Addr × Obj)} {σ : L2.St} {H : Hp} {s : Shared} {c P : Addr} {ps : Array Value} {params : Arguments} {body : Expr} {scope : Scope} {pos : Pos} {E : Value → Shared → Prop} {Q : Value → Shared → Prop}
theorem no_frs (I : Inv X pins σ H s) : ∀ f, s.heap.objs.size ≤ f → f ∉ frs X.stack := fun f hf z => by
  rcases List.mem_cons.mp (I.stkSub _ z) with e | e
  · have h1 := I.lt
    rw [← e] at h1
    exact Nat.lt_irrefl _ (Nat.lt_of_lt_of_le h1 hf)
  · exact I.nofs hf e
theorem lam_made {dV : Value} {us : List Value} (I : Inv X pins σ H s) (TB : LamX.TabB X.base X.mg c P) (hcode : X.env.code = .ref c) (hP : H P = some (.tbl ps)) (ht : TriplesOk ps.toList)
    (ha : ∀ (p : Pos) (cv : Value), codeAmong p ps.toList = some cv → ∃ c', cv = .ref c' ∧ H c' = some (LamX.CodeO c' (X.env.qual ++ "<lambda>"))) (hfree : ∀ y ∈ scope.names, y.2 = .free → ∃ c, X.env.cells.lookup y.1 = some c) (hD : DfOk X H s dV us)
    (h : ∀ (f c' : Addr) (pm ctv : Value) (H1 : Hp) (s' : Shared), Inv X pins σ H1 s' → Made H P ps pos c' (X.env.qual ++ "<lambda>") H1 →
      s'.heap.get? f = some (lamObj (X.env.qual ++ "<lambda>") params body scope (cloFrom X.env.cells scope.names []) pm c' ctv dV) → H1 f = none → f ∉ frs X.stack → DfOk X H1 s' dV us → H1 c' = some (LamX.CodeO c' (X.env.qual ++ "<lambda>")) → Q (.ref f) s') :
    wpAny (model X.prog X.w) X.A (makeTail "<lambda>" (X.env.qual ++ "<lambda>") params (.expr body) scope X.env dV .none none pos pos.line) Q E s := by
  have bP : s.heap.BuiltinsAt X.mg P := TB.bm.keeps I.bk
  have hP' : s.heap.get? P = some { cls := .none, data := .fields ps } := I.hok P _ hP
  have nofr := no_frs I
  have nT : ∀ T, s.heap.get? T = some (tup1 us) → T ≠ P := fun T e z => by
    rw [z, hP'] at e
    have e' := congrArg Obj.data (Option.some.inj e)
    cases e'
  cases hc : codeAmong pos ps.toList with
  | none =>
    refine lam_tail (mg := X.mg) (c := c) (P := P) (ps := ps) (closure_ok hfree) I.ok.glob (I.mod.glob.keeps I.bk) hcode (TB.code.keeps I.bk) hP' ht hc TB.gP bP fun c' ctv h' tk hx hge hlt hrec htb => ?_
    obtain ⟨c2, oc, vs, t, e2, hoc, hd, hv⟩ := hrec
    cases e2
    have hsz : s.heap.objs.size ≤ h'.objs.size := Nat.le_trans hge (Nat.le_of_lt hlt)
    have nC : H c' = none := I.hok.fresh hge
    have I1 := LamX.inv_table (t' := tk) (more := #[rawInt pos.line, rawInt pos.col, .ref c']) (h' := h'.push (lamObj (X.env.qual ++ "<lambda>") params body scope (cloFrom X.env.cells scope.names []) ((X.mg "__name__").getD .none) c' ctv dV)) I hP
      (fun b o hb e => Heap.get?_push_of_some _ (hx b o hb e)) (Heap.get?_push_of_some _ htb) hge ⟨oc, vs, t, Heap.get?_push_of_some _ hoc, hd, hv⟩
    have n1 : h'.objs.size ≠ c' := Nat.ne_of_gt hlt
    have n2 : h'.objs.size ≠ P := Nat.ne_of_gt (Nat.lt_of_lt_of_le (Heap.lt_size hP') hsz)
    refine h h'.objs.size c' ((X.mg "__name__").getD .none) ctv _ _ I1 (.inr ⟨rfl, nC⟩) (Heap.get?_push_size _ rfl) ?_ (nofr _ hsz) ?_ upd_same
    · rw [upd_ne n1, upd_ne n2]
      exact I.hok.fresh hsz
    · rcases hD with z | ⟨hne, T, e1, e2, e3, e4⟩
      · exact .inl z
      · refine .inr ⟨hne, T, e1, Heap.get?_push_of_some _ (hx _ _ (nT T e2) e2), ?_, e4⟩
        rw [upd_ne (Nat.ne_of_lt (Nat.lt_of_lt_of_le (Heap.lt_size e2) hge)), upd_ne (nT T e2)]
        exact e3
  | some cv =>
    obtain ⟨c', e, hco⟩ := ha pos cv hc
    subst e
    refine lam_tailHit (mg := X.mg) (c := c) (P := P) (ps := ps) (closure_ok hfree) I.ok.glob (I.mod.glob.keeps I.bk) hcode (TB.code.keeps I.bk) hP' ht hc bP fun ctv h' tk hx hsz => ?_
    have I1 : Inv X pins σ H { s with heap := h'.push (lamObj (X.env.qual ++ "<lambda>") params body scope (cloFrom X.env.cells scope.names []) ((X.mg "__name__").getD .none) c' ctv dV), toks := tk } := I.kept fun b o e => Heap.get?_push_of_some _ (hx b o e)
    refine h h'.objs.size c' ((X.mg "__name__").getD .none) ctv H _ I1 (.inl ⟨rfl, hc⟩) (Heap.get?_push_size _ rfl) (I.hok.fresh hsz) (nofr _ hsz) ?_ hco
    rcases hD with z | ⟨hne, T, e1, e2, e3, e4⟩
    · exact .inl z
    · exact .inr ⟨hne, T, e1, Heap.get?_push_of_some _ (hx _ _ e2), e3, e4⟩
theorem lam_eval {n : Nat} (I : Inv X pins σ H s) (TB : LamX.TabB X.base X.mg c P) (hcode : X.env.code = .ref c) (hP : H P = some (.tbl ps)) (ht : TriplesOk ps.toList)
    (ha : ∀ (p : Pos) (cv : Value), codeAmong p ps.toList = some cv → ∃ c', cv = .ref c' ∧ H c' = some (LamX.CodeO c' (X.env.qual ++ "<lambda>"))) (hfree : ∀ y ∈ scope.names, y.2 = .free → ∃ c, X.env.cells.lookup y.1 = some c) (hd : LamDef params X.env n)
    (h : ∀ (f c' : Addr) (pm ctv dV : Value) (us : List Value) (H1 : Hp) (s' : Shared), us.length = n → Inv X pins σ H1 s' → Made H P ps pos c' (X.env.qual ++ "<lambda>") H1 →
      s'.heap.get? f = some (lamObj (X.env.qual ++ "<lambda>") params body scope (cloFrom X.env.cells scope.names []) pm c' ctv dV) → H1 f = none → f ∉ frs X.stack → DfOk X H1 s' dV us → H1 c' = some (LamX.CodeO c' (X.env.qual ++ "<lambda>")) → Q (.ref f) s') :
    wpAny (model X.prog X.w) X.A (eval (.Lambda params body scope pos) X.env) Q X.xe s := by
  rw [arm_eval_Lambda]
  rcases hd with ⟨rfl, e⟩ | ⟨rfl, i, j, p, e⟩
  · rw [e]
    refine wpAny_bind (wpAny_pure (wpAny_bind (wpAny_holding (wpAny_pure ?_))))
    rw [makeFunction_eq]
    simp only [List.zip_nil_right, List.filterMap_nil, List.isEmpty_nil, if_true, pure_bind]
    exact lam_made I TB hcode hP ht ha hfree (.inl ⟨rfl, rfl⟩) fun f c' pm ctv H1 s' h1 h2 h3 h4 h5 h6 h7 => h f c' pm ctv _ [] H1 s' rfl h1 h2 h3 h4 h5 h6 h7
  · rw [e]
    refine wpAny_bind (wpAny_evalAll_cons ((pe_int (i := i) (j := j) (pos := p)).run pins s σ H (fun v H1 => H1 = H) I rfl |> fun z => wpAny_mono z (fun u s1 hu => ?_) fun _ _ x => x))
    obtain ⟨v, H1, I1, r1, rfl⟩ := hu
    refine wpAny_evalAll_nil ?_
    refine wpAny_bind (wpAny_holding (wpAny_pure ?_))
    rw [makeFunction_eq]
    simp only [List.zip_nil_right, List.filterMap_nil, List.isEmpty_nil, List.isEmpty_cons, Bool.false_eq_true, if_false, if_true, pure_bind]
    refine wpAny_bind (wpAny_newTextTuple ?_)
    have I2 : Inv X pins σ H1 { s1 with heap := s1.heap.push (tup1 [u]) } := I1.kept fun b o e => Heap.get?_push_of_some _ e
    refine lam_made I2 TB hcode hP ht ha hfree (us := [u]) (.inr ⟨by simp, _, rfl, Heap.get?_push_size _ rfl, I1.hok.fresh (Nat.le_refl _), no_frs I1 _ (Nat.le_refl _)⟩) fun f c' pm ctv H2 s' h1 h2 h3 h4 h5 h6 h7 => h f c' pm ctv _ [u] H2 s' rfl h1 h2 h3 h4 h5 h6 h7
end
end DL
namespace DL
open PySem PySem.Spec PyProof.Rows L2

/-! ### a lambda is called -/
/-- its names: captured ones, globals, its own parameters xs, which the maker has not -/
structure LamN (N : List Str) (sc scope : Scope) (xs : List Str) : Prop where
  kind : scope.kind = .function
  co : scope.isCoroutine = false
  gen : scope.isGenerator = false
  noc : ∀ y ∈ scope.names, y.2 ≠ .cell
  own : ∀ y ∈ scope.names, y.2 = .local → y.1 ∉ N
  free : ∀ y ∈ scope.names, y.2 = .free → sc.names.lookup y.1 = some .cell ∨ sc.names.lookup y.1 = some .free
  par : ∀ x ∈ xs, scope.names.lookup x = some .local
def lamNB (N : List Str) (sc scope : Scope) (xs : List Str) : Bool :=
  decide (scope.kind = .function) && !scope.isCoroutine && !scope.isGenerator && (scope.names.all fun y => !decide (y.2 = .cell) && (!decide (y.2 = .local) || !decide (y.1 ∈ N)) && (!decide (y.2 = .free) || decide (sc.names.lookup y.1 = some .cell) || decide (sc.names.lookup y.1 = some .free))) &&
    xs.all fun x => decide (scope.names.lookup x = some .local)
theorem lamN_by {N : List Str} {sc scope : Scope} {xs : List Str} (h : lamNB N sc scope xs = true) : LamN N sc scope xs := by
  unfold lamNB at h
  simp only [Bool.and_eq_true, Bool.or_eq_true, Bool.not_eq_true', decide_eq_true_eq, decide_eq_false_iff_not, List.all_eq_true] at h
  obtain ⟨⟨⟨⟨h1, h2⟩, h3⟩, h4⟩, h5⟩ := h
  refine ⟨h1, h2, h3, fun y hy => (h4 y hy).1.1, fun y hy e => ?_, fun y hy e => ?_, h5⟩
  · rcases (h4 y hy).1.2 with z | z
    · exact absurd e z
    · exact z
  · rcases (h4 y hy).2 with (z | z) | z
    · exact absurd e z
    · exact .inl z
    · exact .inr z
theorem LamN.has {X : Cx} {scope : Scope} {xs : List Str} (L : LamN X.N X.env.scope scope xs) (ok : X.Ok) : ∀ y ∈ scope.names, y.2 = .free → ∃ c, X.env.cells.lookup y.1 = some c := fun y hy e => by
  rcases L.free y hy e with k | k
  · exact ok.has _ (.inl k)
  · exact ok.has _ (.inr k)
section
variable {X : Cx} {pins : List (Addr × Obj)} {σ : L2.St} {H HZ : Hp} {s s1 : Shared}
theorem lam_enter {A : Around} {outer : List Env} {E : XK} {scope : Scope} {f c' : Addr} {h₁ : Heap} {tk : Nat} {xs : List Str} {m0 : Str → Option Value} (I : Inv X pins σ H s) (L : LamN X.N X.env.scope scope xs) (e0 : Env0 X.prog X.w X.K X.mg X.base A outer s1 HZ) (hd : A.handled = none)
    (un : Un (frs X.stack) [] H HZ s.heap s1.heap) (hns : h₁.Ns s1.heap.objs.size m0) (kp : ∀ b o, s1.heap.get? b = some o → h₁.get? b = some o) :
    Inv (LamX.lamCx X A outer s1 HZ E scope f c') [] σ HZ { s1 with heap := h₁, toks := tk } := by
  have hfree := L.has I.ok
  have cm : ∀ {y c}, (cloFrom X.env.cells scope.names []).lookup y = some c → X.env.cells.lookup y = some c := fun {y c} e => by
    rcases cloFrom_mem (PySem.mem_of_lookup e) with hm | ⟨h1, h2⟩
    · cases hm
    · obtain ⟨c1, hc⟩ := hfree _ h1 rfl
      have hc : X.env.cells.lookup y = some c1 := hc
      have e2 : c = c1 := by
        rw [h2, hc] <;> rfl
      rw [e2]
      exact hc
  have look : ∀ {y}, scope.names.lookup y = some .free → ∃ c, (cloFrom X.env.cells scope.names []).lookup y = some c := fun {y} hl => by
    have hy : (y, NameKind.free) ∈ scope.names := PySem.mem_of_lookup hl
    exact mem_lookup (cloFrom_has (cells := X.env.cells) (acc := []) hy)
  have cellK : ∀ {c : Addr} {v : Option Value}, H c = none → s.heap.IsCell c v → h₁.IsCell c v := fun {c v} n ⟨o, ho, hd⟩ => by
    obtain ⟨sl, q⟩ := un.any ho n (by simp)
    exact ⟨_, kp _ _ q, hd⟩
  have noA : ∀ b : Addr, b ∉ (LamX.lamCx X A outer s1 HZ E scope f c').ex := fun b z => absurd (show b ∈ ([] : List Addr) from z) (by simp)
  refine ⟨⟨e0.mod, L.kind, rfl, rfl, Nat.le_refl _, fun y z c e1 e2 => I.ok.inj y z c (cm e1) (cm e2), fun y hy => ?_, fun y c z _ => ?_, fun _ => hd, Around.frames_deeper e0.frames, .inr ⟨rfl, rfl⟩, fun b z => absurd z (noA b), e0.bs, e0.bsz, fun b _ _ => noA b,
      fun b z => absurd z (noA b), e0.funs, e0.frf⟩,
    rfl, e0.bare, Un.kept kp, ⟨_, hns, fun i y v e1 e2 e3 => ?_⟩, fun y c e => ?_, e0.hok.fresh (Nat.le_refl _), fun y c e => ?_, fun q hq => absurd (show q ∈ ([] : List (Addr × Obj)) ++ [] from hq) (by simp), e0.hok.kept kp, I.len⟩
  · have hy : scope.names.lookup y = some .cell ∨ scope.names.lookup y = some .free := hy
    rcases hy with hy | hy
    · exact absurd rfl (L.noc _ (PySem.mem_of_lookup hy))
    · exact look hy
  · have z : false = true := z
    cases z
  · have e3 : Vis scope y := e3
    have e1 : X.N[i]? = some y := e1
    rcases e3 with k | k | k
    · exact absurd (List.mem_of_getElem? e1) (L.own _ (PySem.mem_of_lookup k) rfl)
    · exact absurd rfl (L.noc _ (PySem.mem_of_lookup k))
    · obtain ⟨m, hn, hl⟩ := I.loc
      have hvis : Vis X.env.scope y := (L.free _ (PySem.mem_of_lookup k) rfl).elim (fun k => .inr (.inl k)) (fun k => .inr (.inr k))
      obtain ⟨w', r, q⟩ := hl i y v e1 e2 hvis
      obtain ⟨c2, h2⟩ := look k
      refine ⟨w', r, .inr ⟨.inr k, c2, h2, ?_⟩⟩
      have c1 := cm h2
      rcases q with ⟨k', _⟩ | ⟨_, c3, e', z⟩
      · have k' : X.env.scope.names.lookup y = some .local := k'
        rcases L.free _ (PySem.mem_of_lookup k) rfl with k2 | k2 <;> rw [show X.env.scope.names.lookup y = _ from k2] at k' <;> cases k'
      · rw [c1] at e'
        cases e'
        exact cellK (I.freeC y _ c1) z
  · obtain ⟨w', z⟩ := I.cell y c (cm e)
    exact ⟨w', cellK (I.freeC y c (cm e)) z⟩
  · obtain ⟨v, o, ho, hd⟩ := I.cell y c (cm e)
    exact un.free c o ho (I.freeC y c (cm e)) (by simp)
/-- how its parameters are bound: all by their defaults -/
def LamB (params : Arguments) (body : Expr) (scope : Scope) (xs : List Str) : Prop := ∀ (q : Str) (cl : List (Str × Addr)) (pm cv ctv : Value),
  (xs = [] → bindArgs (lamFn q params body scope cl pm cv ctv .none) ⟨[], []⟩ = pure []) ∧
  (∀ (T : Addr) (us : List Value), us.length = xs.length → us ≠ [] → ∃ k, bindArgs (lamFn q params body scope cl pm cv ctv (.ref T)) ⟨[], []⟩ = seqItems? (.ref T) >>= k ∧ k (some us.toArray) = pure (xs.zip us))
theorem pe_actD {Eg : XK} {Ng : List Str} {qg : Str} {sg : Scope} {g f c' : Addr} {cdg pm ctv dV : Value} {us : List Value} {xs : List Str} {params : Arguments} {body : Expr} {scope : Scope} {k i : Nat} {a : Str} {pn : List (Addr × Obj)} {xe : Value → Shared → Prop} {W : WX} {tb : XK → TE} {p1 p2 : Pos}
    (I : Inv X pins σ H s) (L : LamN X.N X.env.scope scope xs) (hf : s.heap.get? f = some (lamObj (X.env.qual ++ "<lambda>") params body scope (cloFrom X.env.cells scope.names []) pm c' ctv dV)) (hfn : H f = none) (hfr : f ∉ frs X.stack)
    (hD : DfOk X H s dV us) (hu : us.length = xs.length) (hB : LamB params body scope xs)
    (tk : Takes ((cxOf (L2.CX X.prog X.w) X.prog X.w X.K X.mg X.base Ng qg sg g cdg X.A X.stack s H Eg).tr pn xe) W) (hr : Room (k + 1) (X.A.deeper (envOfC qg sg s.heap.objs.size g cdg)))
    (hbody : ∀ (A : Around) (outer : List Env) (s : Shared) (H : Hp) (E : XK), Room k (A.deeper (LamX.lamEnv X scope s.heap.objs.size f c')) → A.guards = some [] → PE (LamX.lamCx X A outer s H E scope f c') body (tb E)) (hgd : (X.A.deeper (envOfC qg sg s.heap.objs.size g cdg)).guards = some [])
    (hN : Ng[i]? = some a) (hv : Vis sg a) (hd : (a == ("__debug__" : Str)) = false := by decide) (hcd : (a == ("__classdict__" : Str)) = false := by decide) :
    PE ((cxOf (L2.CX X.prog X.w) X.prog X.w X.K X.mg X.base Ng qg sg g cdg X.A X.stack s H Eg).tr pn xe) (.Call (.Name a p1) [] [] p2)
      (fun σZ HZ Q => σZ[i]? = some (some (.ref f)) ∧ HZ c' = some (LamX.CodeO c' (X.env.qual ++ "<lambda>")) ∧ tb (WE W σZ) σ HZ Q) := by
  refine ⟨fun pinsZ sZ σZ HZ Q IZ h => ?_⟩
  obtain ⟨hs, hc, ht⟩ := h
  refine wpAny_Call_Name_kw (thn ((pe_var (pos := p1) (i := i) hN hv hd hcd).run pinsZ sZ σZ HZ (fun v H1 => v = .ref f ∧ H1 = HZ) IZ ⟨.ref f, hs, rfl, rfl⟩) fun u s1 ⟨v, H1, I1, r1, q1⟩ => ?_)
  obtain ⟨ev, eH⟩ := q1
  subst ev
  rw [eH] at I1
  obtain rfl : u = Value.ref f := r1
  have of1 : s1.heap.get? f = some (lamObj (X.env.qual ++ "<lambda>") params body scope (cloFrom X.env.cells scope.names []) pm c' ctv dV) := I1.base.keep f _ hf hfn hfr (fun z => nomatch (show f ∈ ([] : List Addr) from z))
  refine PySem.W.callWith_F0 ⟨_, _, _, _, of1⟩ ?_
  have un : Un (frs X.stack) [] H HZ s.heap s1.heap := I1.base
  obtain ⟨⟨oc, vs, t, hoc, hdc, hvc⟩, _, _⟩ := I1.hok c' _ hc
  have hbind : ∀ (M : Model) (A : Around) (E : Value → Shared → Prop) (Q : List (Str × Value) → Shared → Prop), Q (xs.zip us) s1 → wpAny M A (bindArgs (lamFn (X.env.qual ++ "<lambda>") params body scope (cloFrom X.env.cells scope.names []) pm (.ref c') ctv dV) ⟨[], []⟩) Q E s1 := by
    intro M A E Q q
    rcases hD with ⟨e1, e2⟩ | ⟨hne, T, e1, e2, e3, e4⟩
    · subst e1 e2
      have ex : xs = [] := List.length_eq_zero_iff.mp (by rw [← hu]; rfl)
      rw [(hB _ _ _ _ _).1 ex]
      rw [ex] at q
      exact wpAny_pure q
    · subst e1
      obtain ⟨k, b1, b2⟩ := (hB (X.env.qual ++ "<lambda>") (cloFrom X.env.cells scope.names []) pm (.ref c') ctv).2 T us hu hne
      rw [b1]
      have oT : s1.heap.get? T = some (tup1 us) := I1.base.keep T _ e2 e3 e4 (fun z => nomatch (show T ∈ ([] : List Addr) from z))
      refine wpAny_bind (wpAny_seqItems oT rfl ?_)
      rw [b2]
      exact wpAny_pure q
  have rc : codeAny (model X.prog X.w) (X.A.deeper (envOfC qg sg s.heap.objs.size g cdg)) (.call (.ref f) ⟨[], []⟩) (CR (L2.CX X.prog X.w) (envOfC qg sg s.heap.objs.size g cdg :: X.stack) X.prog X.w HZ s1 Q (WE W σZ)) s1 := by
    refine PySem.W.kla_callFunE hr.depth of1 rfl L.co L.gen rfl ⟨c', oc, vs, t, rfl, hoc, hdc, hvc⟩ (hbind _ _ _ _ ?_)
    refine wpAny_newFunctionEnv (fun y hy => L.noc y hy) (fun y hy => L.par _ (List.of_mem_zip hy).1) (fun h₁ hns hsb => ⟨I1.nolimit.fresh _ hsb, ?_⟩) L.kind
    show codeAny _ _ (.expr body (LamX.lamEnv X scope s1.heap.objs.size f c')) _ _
    have kp : ∀ b o, s1.heap.get? b = some o → h₁.get? b = some o := fun b o e => hsb.extBut b o (Nat.ne_of_lt (Heap.lt_size e)) (Heap.get?_push_of_some _ e)
    have J : Inv (LamX.lamCx X (X.A.deeper (envOfC qg sg s.heap.objs.size g cdg)) (envOfC qg sg s.heap.objs.size g cdg :: X.stack) s1 HZ (WE W σZ) scope f c') [] σ HZ { s1 with heap := h₁, toks := s1.toks + (xs.zip us).length } :=
      lam_enter I L I1.env0 hr.hd un hns kp
    refine PySem.W.kla_codeExpr (wpAny_mono ((hbody _ _ s1 HZ _ (hr.deeper _) hgd).run [] _ _ HZ Q J ht) (fun v s' hq => ?_) fun e s' hq => hq)
    obtain ⟨w', H', J', rv, q⟩ := hq
    exact ⟨w', H', J'.os, J'.bare, J'.base, J'.hok, rv, q⟩
  have hx := passAt tk σZ
  refine wpAny_call (codeAny_mono rc fun r s' hq => ?_)
  cases r with
  | error e => exact hx pinsZ HZ s1 e s' I1 hq
  | ok fl =>
    cases fl with
    | ret u => exact I1.after hq
    | next => exact False.elim hq
    | brk => exact False.elim hq
    | cont => exact False.elim hq
end
/-! ### the same over data -/
/-- what a closure's call is, in the frames of the def that got it (entered at s, H from A, outer) -/
def ActOk (G : GT) (P : Program) (w : World) (K : PySem.W.Frag) (mg : Str → Option Value) (base : Heap) (k : Nat) (A : Around) (outer : List Env) (s : Shared) (H : Hp) (J : Clo) (L : Den) : Prop :=
  ∀ (E : XK) (Ng : List Str) (qg : Str) (sg : Scope) (g : Addr) (cdg : Value) (pn : List (Addr × Obj)) (xe : Value → Shared → Prop) (W : WX) (a : Str) (i : Nat) (p1 p2 : Pos), Room (k + 1) (A.deeper (envOfC qg sg s.heap.objs.size g cdg)) → A.guards = some [] →
    Takes ((cxOf (L2.CX P w) P w K mg base Ng qg sg g cdg A outer s H E).tr pn xe) W → Ng[i]? = some a → Vis sg a → (a == ("__debug__" : Str)) = false → (a == ("__classdict__" : Str)) = false →
    PD G ((cxOf (L2.CX P w) P w K mg base Ng qg sg g cdg A outer s H E).tr pn xe) W (.Call (.Name a p1) [] [] p2) (dCallL J L i)
theorem act_of {X : Cx} {G : GT} {pins : List (Addr × Obj)} {σ : L2.St} {H : Hp} {s : Shared} {e : List (Option Sv)} {f c' : Addr} {pm ctv dV : Value} {us : List Value} {xs : List Str} {params : Arguments} {body : Expr} {scope : Scope} {k : Nat} {tb : DE} (hs : SlotsV e σ)
    (I : Inv X pins σ H s) (L : LamN X.N X.env.scope scope xs) (hf : s.heap.get? f = some (lamObj (X.env.qual ++ "<lambda>") params body scope (cloFrom X.env.cells scope.names []) pm c' ctv dV)) (hfn : H f = none) (hfr : f ∉ frs X.stack)
    (hD : DfOk X H s dV us) (hu : us.length = xs.length) (hB : LamB params body scope xs)
    (hbody : ∀ (A : Around) (outer : List Env) (s : Shared) (H : Hp) (E : XK), Room k (A.deeper (LamX.lamEnv X scope s.heap.objs.size f c')) → (A.deeper (LamX.lamEnv X scope s.heap.objs.size f c')).guards = some [] → Takes (LamX.lamCx X A outer s H E scope f c') (fun c d _ H' => E c d H') →
      PD G (LamX.lamCx X A outer s H E scope f c') (fun c d _ H' => E c d H') body tb) :
    ActOk G X.prog X.w X.K X.mg X.base k X.A X.stack s H ⟨f, c', X.env.qual ++ "<lambda>", cloD e, cloV e σ⟩ (denL tb e) := by
  intro E Ng qg sg g cdg pn xe W a i p1 p2 hr hgd tk hN hv hdb hcd
  refine ⟨PE.wk (pe_actD (tb := fun E => liftE G (fun c d _ H' => E c d H') tb) I L hf hfn hfr hD hu hB tk hr (fun A outer s H E hr2 hg2 => (hbody A outer s H E hr2 hg2 (takes_of rfl rfl rfl rfl)).pe) hgd hN hv hdb hcd) fun σZ HZ Q _ h => ?_⟩
  obtain ⟨ow, s1, Qd, Ed, E1, q, hQ, hE⟩ := h
  cases z : nthO s1.e i with
  | none => simp only [dCallL, z] at q
  | some sv =>
    cases sv with
    | v d =>
      cases d with
      | clo f2 c2 q2 ds2 vs2 =>
        simp only [dCallL, z] at q
        obtain ⟨eJ, q⟩ := q
        obtain ⟨v, g1, g2⟩ := E1.get z
        have g3 : Rep G HZ ow (.clo f2 c2 q2 ds2 vs2) v := g2
        rw [Rep] at g3
        obtain ⟨rfl, n, t, r⟩ := g3
        cases eJ
        refine ⟨g1, t, farO ow, ⟨keepE e, s1.g⟩, _, _, er_keep hs (RepL.om farO_om _ _ r) (E1.gr.om farO_om), q, fun r2 s2 q2 v2 H2 ow2 e2 E2 R2 => ?_, fun x s2 q2 c d H2 ow2 e2 E2 R2 => ?_⟩
        · obtain ⟨r', hr', q2⟩ := bindO_some q2
          obtain ⟨ow3, e3, g3, R3⟩ := out_ok (fun b => farO_slot) e2 E2 R2 hr'
          exact hQ _ _ q2 _ _ _ (backO_ext e3) (backO_er e3 E1 g3) (backO_repR e3 R3)
        · exact hE _ _ q2 _ _ _ _ (backO_ext e2) (backO_er e2 E1 E2.gr) (R2.om (backO_om e2))
      | _ => simp only [dCallL, z] at q
    | _ => simp only [dCallL, z] at q
/-- a def that gets a closure: FL, of the closure and of what its call is -/
structure CalleeL (G : GT) (P : Program) (w : World) (K : PySem.W.Frag) (mg : Str → Option Value) (base : Heap) (k j : Nat) (x : Str) (FL : Clo → Den → Den) : Prop where
  ex : ∃ (g : Addr) (fd : FuncData) (a : Str), mg x = some (.ref g) ∧ PySem.W.keepIn K (.ref g) = true ∧ Binds K fd [a] [] ∧
    ∀ (J : Clo) (L : Den) (A : Around) (outer : List Env) (s : Shared) (H : Hp) (args : Args) (us : List Value) (vs : List V) (Q : VK) (E : XK), Room (k + 1) A → A.guards = some [] → Env0 P w K mg base A outer s H → BindsTo s fd args ([a].zip us) → Vals vs us → ActOk G P w K mg base j A outer s H J L →
      liftF G 1 (FL J L) vs H Q E → codeAny (model P w) A (.call (.ref g) args) (CR (L2.CX P w) outer P w H s Q E) s
theorem calleeL_of {G : GT} {P : Program} {w : World} {K : PySem.W.Frag} {mg : Str → Option Value} {base : Heap} {k j : Nat} {f : Addr} {x y a : Str} {st : Stmt} {fd : FuncData} {N : List Str} {t : Clo → Den → DS} (hm : mg y = some (.ref f)) (F : Fun K x x st f fd) (S : FnScope N [a] (defScope st)) (hb : Binds K fd [a] [])
    (hbody : ∀ (J : Clo) (L : Den) (cdv : Value) (A : Around) (outer : List Env) (s : Shared) (H : Hp) (E : XK), Room k (A.deeper (envOfC x (defScope st) s.heap.objs.size f cdv)) → (A.deeper (envOfC x (defScope st) s.heap.objs.size f cdv)).guards = some [] →
      Takes (cxOf (L2.CX P w) P w K mg base N x (defScope st) f cdv A outer s H E) (fun c d _ H' => E c d H') → ActOk G P w K mg base j A outer s H J L →
      PDSs G (cxOf (L2.CX P w) P w K mg base N x (defScope st) f cdv A outer s H E) (fun c d _ H' => E c d H') (defBody st) (t J L)) : CalleeL G P w K mg base k j y (fun J L => dFn N.length (t J L)) := by
  refine ⟨f, fd, a, hm, F.kp, hb, fun J L A outer s H args us vs Q E hr hg e0 hB r act h => ?_⟩
  obtain ⟨oc, od, kV, doc, pm, an, cdv, ct, osl, rfl, lk, hcd⟩ := F.ex
  obtain ⟨ow, ds, g, Qd, Ed, h1, h2, h3, h4, h5, h6, h7⟩ := h
  refine LamX.run_ofS (CX := L2.CX P w) lk hcd S hr e0 hB r (by rw [h4.length, h2]; rfl) fun hr' => ?_
  refine ⟨_, (hbody J L cdv A outer s H E hr' hg (takes_of rfl rfl rfl rfl) act).ps, ?_⟩
  refine ⟨ow, _, _, er_start h4 h3, h5, ⟨fun s1 q1 σ1 H1 ow1 e1 E1 => h6 _ _ q1 _ _ _ e1 E1.gr (by rw [RepR, Rep]), fun r s1 q1 v σ1 H1 ow1 e1 E1 R1 => ?_, fun _ z => z.elim, fun _ z => z.elim, fun x s1 q1 c d σ1 H1 ow1 e1 E1 R1 => h7 _ _ q1 _ _ _ _ e1 E1.gr R1⟩⟩
  obtain ⟨r', hr', q1⟩ := bindO_some q1
  obtain ⟨ow2, e2, g2, R2⟩ := out_ok h1 e1 E1 R1 hr'
  exact h6 _ _ q1 _ _ _ e2 g2 R2
end DL
namespace DL
open PySem PySem.Spec PyProof.Rows L2

/-! ### x(lambda: ..) -/
section
variable {G : GT} {ow : OW} {H : Hp} {σ : L2.St} {s : Sd} {P : Addr} {ps ps' : Array Value} {q : Str}
theorem Ext.tab_upd (hP : ow P = some .tab) (hH : H P = some (.tbl ps)) : Ext ow H ow (upd H P (.tbl ps')) where
  keep := fun b u e l => by
    have n : b ≠ P := fun z => by subst z; rw [hP] at l; cases l
    rw [upd_ne n]; exact e
  there := fun b u e => by
    by_cases z : b = P
    · subst z; exact ⟨_, upd_same⟩
    · exact ⟨u, by rw [upd_ne z]; exact e⟩
  own := fun b u e => .inl rfl
theorem ER.tab_upd (E : ER G ow H σ s) (hP : ow P = some .tab) (hH : H P = some (.tbl ps)) (ht : TriplesOk ps'.toList) (ha : ∀ (pos : Pos) (cv : Value), codeAmong pos ps'.toList = some cv → ∃ c, cv = .ref c ∧ ow c = none ∧ H c = some (LamX.CodeO c q))
    (hu : ∀ p ∈ G.t, p.1 = P → p.2 = q) : ER G ow (upd H P (.tbl ps')) σ s := by
  have e : Ext ow H ow (upd H P (.tbl ps')) := Ext.tab_upd hP hH
  have ne : ∀ {b : Addr} {w : Ow}, ow b = some w → w ≠ .tab → b ≠ P := fun {b w} h n z => by subst z; rw [hP] at h; cases h; exact n rfl
  have nn : ∀ {b : Addr}, ow b = none → b ≠ P := fun {b} h z => by subst z; rw [hP] at h; cases h
  refine ⟨E.len, fun i sv hi => ?_, ⟨fun a h i => ?_, fun a n h i => ?_, fun a b n h1 h2 i1 i2 => ?_, fun p hp => ?_⟩⟩
  · obtain ⟨v, h1, h2⟩ := E.sl i sv hi
    refine ⟨v, h1, ?_⟩
    cases sv with
    | v d => exact Rep.ext e d v h2
    | ol l =>
      obtain ⟨a, xs, r, o, t, z⟩ := h2
      exact ⟨a, xs, r, o, by rw [upd_ne (ne o (by intro y; cases y))]; exact t, RepL.ext e l xs z⟩
    | od tb ks vs =>
      obtain ⟨a, xs, r, o, t, z⟩ := h2
      exact ⟨a, xs, r, o, t.same fun u hu => by rw [upd_ne (ne o (by intro y; cases y))]; exact hu, RepL.ext e vs xs z⟩
  · have z := ne h (by intro y; cases y)
    rw [upd_ne z] at i
    obtain ⟨m, t, x, gs, h1, h2, h3, h4⟩ := E.gr.dr a h i
    exact ⟨m, t, x, gs, by rw [upd_ne z]; exact h1, h2, by rw [upd_ne (ne h2 (by intro y; cases y))]; exact h3, h4⟩
  · have z := ne h (by intro y; cases y)
    rw [upd_ne z] at i
    obtain ⟨ob, dx, fs, h1, h2, h3⟩ := E.gr.ob a n h i
    exact ⟨ob, dx, fs, h1, by rw [upd_ne z]; exact h2, h3.imp fun d v y => Rep.ext e d v y⟩
  · rw [upd_ne (ne h1 (by intro y; cases y))] at i1
    rw [upd_ne (ne h2 (by intro y; cases y))] at i2
    exact E.gr.inj a b n h1 h2 i1 i2
  · obtain ⟨h1, h2⟩ := E.gr.tab p hp
    refine ⟨h1, ?_⟩
    by_cases z : p.1 = P
    · rw [z, hu p hp z]
      exact ⟨ps', upd_same, ht, fun pos cv hc => by
        obtain ⟨c, e1, e2, e3⟩ := ha pos cv hc
        exact ⟨c, e1, e2, by rw [upd_ne (nn e2)]; exact e3⟩⟩
    · exact h2.imp (upd_ne z) fun c n t => ⟨n, by rw [upd_ne (nn n)]; exact t⟩
theorem upd_comm {a b : Addr} {u v : HO} (h : a ≠ b) : upd (upd H a u) b v = upd (upd H b v) a u := by
  funext c
  by_cases h1 : c = b
  · subst h1
    rw [upd_same, upd_ne (Ne.symm h), upd_same]
  · rw [upd_ne h1]
    by_cases h2 : c = a
    · subst h2; rw [upd_same, upd_same]
    · rw [upd_ne h2, upd_ne h2, upd_ne h1]
end
section
variable {G : GT} {X : Cx} {W : WX}
theorem pd_lam {x : Str} {FL : Clo → Den → Den} {k j : Nat} {c P : Addr} {xs : List Str} {params : Arguments} {body : Expr} {scope : Scope} {lpos pos p : Pos} {tb : DE} (CL : CalleeL G X.prog X.w X.K X.mg X.base k j x FL) (hr : Room (k + 1) X.A) (hgd : X.A.guards = some []) (hg : Gl X x) (tk : Takes X W)
    (TB : LamX.TabB X.base X.mg c P) (hcode : X.env.code = .ref c) (hP : (P, X.env.qual ++ "<lambda>") ∈ G.t) (hu : ∀ p ∈ G.t, p.1 = P → p.2 = X.env.qual ++ "<lambda>") (L : LamN X.N X.env.scope scope xs) (hd : LamDef params X.env xs.length) (hB : LamB params body scope xs)
    (hbody : ∀ (A : Around) (outer : List Env) (s : Shared) (H : Hp) (E : XK) (f c' : Addr), Room j (A.deeper (LamX.lamEnv X scope s.heap.objs.size f c')) → (A.deeper (LamX.lamEnv X scope s.heap.objs.size f c')).guards = some [] → Takes (LamX.lamCx X A outer s H E scope f c') (fun c d _ H' => E c d H') →
      PD G (LamX.lamCx X A outer s H E scope f c') (fun c d _ H' => E c d H') body tb)
    (hdb : (x == ("__debug__" : Str)) = false := by decide) :
    PD G X W (.Call (.Name x p) [.Lambda params body scope lpos] [] pos) (dLam FL tb) := by
  refine ⟨⟨fun pins s σ H Q I h => ?_⟩⟩
  obtain ⟨ow, sd, Qd, Ed, E, q, hQ, hE⟩ := h
  obtain ⟨g, fd, a, hm, hk, hb, run⟩ := CL.ex
  obtain ⟨oP, ps, hPs, ht, ha⟩ := E.gr.tab _ hP
  refine wpAny_Call_Name_kw (ld_glob I hg hm ?_ hdb)
  refine PySem.W.callWith_K (h₀ := X.base) I.ok.mod.kin hk ?_ (by rfl) (by rfl)
  show wpAny _ _ (spliced ((false, eval (.Lambda params body scope lpos) X.env) :: backTo pos (starEach [] X.env))) _ _ s
  refine Calls.spliced_cons (lam_eval I TB hcode hPs ht (fun p cv hc => by
    obtain ⟨c', e1, _, e3⟩ := ha p cv hc
    exact ⟨c', e1, e3⟩) (L.has I.ok) hd fun f c' pm ctv dV us H1 s' hul I1 made hf hfn hfr hD hco => ?_)
  refine Calls.spliced_nil ⟨I1.kIn, ?_⟩
  -- the data behind the making
  obtain ⟨ow', eX, E1, oc'⟩ : ∃ ow', Ext ow H ow' H1 ∧ ER G ow' H1 σ sd ∧ ow' c' = none := by
    rcases made with ⟨rfl, hit⟩ | ⟨rfl, nC⟩
    · obtain ⟨c2, e1, e2, e3⟩ := ha _ _ hit
      cases e1
      exact ⟨ow, Ext.refl _ _, E, e2⟩
    · have nPc : P ≠ c' := ne_of_none hPs nC
      have Ea : ER G (ow1 ow c' none) (upd H c' (LamX.CodeO c' (X.env.qual ++ "<lambda>"))) σ sd := E.ext_new nC rfl
      have ea : Ext ow H (ow1 ow c' none) (upd H c' (LamX.CodeO c' (X.env.qual ++ "<lambda>"))) := Ext.new nC
      have oP' : ow1 ow c' none P = some .tab := (ow1_ne nPc).trans oP
      have hP' : upd H c' (LamX.CodeO c' (X.env.qual ++ "<lambda>")) P = some (.tbl ps) := by rw [upd_ne nPc]; exact hPs
      have eL : (ps ++ #[rawInt lpos.line, rawInt lpos.col, .ref c']).toList = ps.toList ++ [rawInt lpos.line, rawInt lpos.col, .ref c'] := by simp
      have Eb := Ea.tab_upd (ps' := ps ++ #[rawInt lpos.line, rawInt lpos.col, .ref c']) (q := X.env.qual ++ "<lambda>") oP' hP' (by rw [eL]; exact PySem.TriplesOk_snoc _ _ _ _ ht) (fun p' cv hcv => by
        rw [eL] at hcv
        rcases LamX.among_app _ ht hcv with z | z
        · obtain ⟨c0, e1, e2, e3⟩ := ha p' cv z
          have n0 := ne_of_none e3 nC
          exact ⟨c0, e1, (ow1_ne n0).trans e2, by rw [upd_ne n0]; exact e3⟩
        · exact ⟨c', z, ow1_same, upd_same⟩) hu
      rw [upd_comm (Ne.symm nPc)] at Eb
      refine ⟨_, ?_, Eb, ow1_same⟩
      have eb := ea.trans (Ext.tab_upd (ps' := ps ++ #[rawInt lpos.line, rawInt lpos.col, .ref c']) oP' hP')
      rw [upd_comm (Ne.symm nPc)] at eb
      exact eb
  have act := act_of (G := G) (k := j) (tb := tb) E1.slots I1 L hf hfn hfr hD hul hB (fun A outer s H E h1 h2 h3 => hbody A outer s H E f c' h1 h2 h3)
  have hlift : liftF G 1 (FL ⟨f, c', X.env.qual ++ "<lambda>", cloD sd.e, cloV sd.e σ⟩ (denL tb sd.e)) [.ref f] H1 Q (WE W σ) := by
    refine ⟨farO ow', [.clo f c' (X.env.qual ++ "<lambda>") (cloD sd.e) (cloV sd.e σ)], sd.g, _, _, fun b => farO_slot, rfl, E1.gr.om farO_om, RepL.om farO_om _ _ (RepL.cons ?_ RepL.nil), q ⟨f, c', X.env.qual ++ "<lambda>", cloD sd.e, cloV sd.e σ⟩ rfl, fun r g' qr v H2 ow2 e2 g2 R2 => ?_, fun x g' qx c d H2 ow2 e2 g2 R2 => ?_⟩
    · rw [Rep]
      exact ⟨rfl, oc', hco, E1.clo⟩
    · exact hQ _ _ qr _ _ _ (eX.trans (backO_ext e2)) (backO_er e2 E1 g2) ((backO_repR e2 R2).from eX)
    · exact hE _ _ qx _ _ _ _ (eX.trans (backO_ext e2)) (backO_er e2 E1 g2) (R2.om (backO_om e2))
  have rc := run _ _ X.A X.stack s' H1 ⟨[.ref f], []⟩ [.ref f] [.ref f] Q (WE W σ) hr hgd I1.env0 (hb s' [.ref f] I1.kIn rfl) (.cons rfl .nil) act hlift
  have hx := passAt tk σ
  refine wpAny_call (codeAny_mono rc fun r s2 hq => ?_)
  cases r with
  | error e => exact hx pins H1 s' e s2 I1 hq
  | ok fl =>
    cases fl with
    | ret u => exact I1.after hq
    | next => exact False.elim hq
    | brk => exact False.elim hq
    | cont => exact False.elim hq
end
end DL
namespace DL
open PySem PySem.Spec PyProof.Rows L2

/-! ### a def that makes lambdas -/
structure FunC (K : PySem.W.Frag) (x qual : Str) (st : Stmt) (f : Addr) (fd : FuncData) (c : Addr) : Prop where
  ex : ∃ (oc : Value) (od : Option Addr) (kV doc pm : Value) (an : Option Addr) (ct : Value) (osl : Array (Option Value)),
    fd = PySem.W.fnOf x qual (defArgs st) (defBody st) (defScope st) .none kV doc pm an (.ref c) ct ∧ K.lookup f = some ⟨oc, od, .func fd, osl⟩ ∧ PySem.W.codeIn K (.ref c) qual = true
  kp : PySem.W.keepIn K (.ref f) = true
theorem FunC.fn {K : PySem.W.Frag} {x qual : Str} {st : Stmt} {f : Addr} {fd : FuncData} {c : Addr} (F : FunC K x qual st f fd c) : Fun K x qual st f fd :=
  ⟨let ⟨oc, od, kV, doc, pm, an, ct, osl, h⟩ := F.ex; ⟨oc, od, kV, doc, pm, an, _, ct, osl, h⟩, F.kp⟩
theorem callee_ofC {G : GT} {P : Program} {w : World} {K : PySem.W.Frag} {mg : Str → Option Value} {base : Heap} {k : Nat} {f c : Addr} {x y : Str} {st : Stmt} {fd : FuncData} {N ps : List Str} {t : DS} (hm : mg y = some (.ref f)) (F : FunC K x x st f fd c) (S : FnScope N ps (defScope st)) (hb : Binds K fd ps [])
    (hbody : ∀ (A : Around) (outer : List Env) (s : Shared) (H : Hp) (E : XK), Room k (A.deeper (envOfC x (defScope st) s.heap.objs.size f (.ref c))) → (A.deeper (envOfC x (defScope st) s.heap.objs.size f (.ref c))).guards = some [] →
      Takes (cxOf (L2.CX P w) P w K mg base N x (defScope st) f (.ref c) A outer s H E) (fun c d _ H' => E c d H') →
      PDSs G (cxOf (L2.CX P w) P w K mg base N x (defScope st) f (.ref c) A outer s H E) (fun c d _ H' => E c d H') (defBody st) t) : Callee G P w K mg base (k + 1) y ps.length (dFn N.length t) [] := by
  refine ⟨f, fd, [], [], ps, hm, F.kp, hb, dv0, ?_, rfl⟩
  obtain ⟨oc, od, kV, doc, pm, an, ct, osl, rfl, lk, hcd⟩ := F.ex
  refine ⟨fnG_of lk hcd S (fun vs H Q E h => ?_) fun A outer s H vs Q E hr hg h => ?_⟩
  · obtain ⟨ow, ds, g, Qd, Ed, h1, h2, h3, h4, _⟩ := h
    rw [h4.length, h2]
  · obtain ⟨ow, ds, g, Qd, Ed, h1, h2, h3, h4, h5, h6, h7⟩ := h
    refine ⟨_, (hbody A outer s H E hr hg (takes_of rfl rfl rfl rfl)).ps, ?_⟩
    refine ⟨ow, _, _, er_start h4 h3, h5, ⟨fun s1 q1 σ1 H1 ow1 e1 E1 => h6 _ _ q1 _ _ _ e1 E1.gr (by rw [RepR, Rep]), fun r s1 q1 v σ1 H1 ow1 e1 E1 R1 => ?_, fun _ z => z.elim, fun _ z => z.elim, fun x s1 q1 c d σ1 H1 ow1 e1 E1 R1 => h7 _ _ q1 _ _ _ _ e1 E1.gr R1⟩⟩
    obtain ⟨r', hr', q1⟩ := bindO_some q1
    obtain ⟨ow2, e2, g2, R2⟩ := out_ok h1 e1 E1 R1 hr'
    exact h6 _ _ q1 _ _ _ e2 g2 R2
/-- its table of code objects -/
structure TabT (G : GT) (base : Heap) (mg : Str → Option Value) (c P : Addr) (q : Str) : Prop where
  tb : LamX.TabB base mg c P
  mem : (P, q) ∈ G.t
  one : ∀ p ∈ G.t, p.1 = P → p.2 = q
theorem lamB_nil {params : Arguments} {body : Expr} {scope : Scope} (h : ∀ (q : Str) (cl : List (Str × Addr)) (pm cv ctv : Value), bindArgs (lamFn q params body scope cl pm cv ctv .none) ⟨[], []⟩ = pure []) : LamB params body scope [] :=
  fun q cl pm cv ctv => ⟨fun _ => h q cl pm cv ctv, fun T us h1 h2 => (h2 (List.length_eq_zero_iff.mp h1)).elim⟩
theorem lamB_one {x : Str} {params : Arguments} {body : Expr} {scope : Scope} (h : ∀ (q : Str) (cl : List (Str × Addr)) (pm cv ctv : Value) (T : Addr) (u : Value), ∃ k, bindArgs (lamFn q params body scope cl pm cv ctv (.ref T)) ⟨[], []⟩ = seqItems? (.ref T) >>= k ∧ k (some #[u]) = pure [(x, u)]) : LamB params body scope [x] :=
  fun q cl pm cv ctv => ⟨fun z => (by cases z), fun T us h1 h2 => by
    obtain ⟨u, rfl⟩ : ∃ u, us = [u] := match us, h1 with
      | [u], _ => ⟨u, rfl⟩
    exact h q cl pm cv ctv T u⟩
section
variable {G : GT} {X : Cx} {W : WX}
theorem pd_lamT {x : Str} {FL : Clo → Den → Den} {k j : Nat} {c P : Addr} {params : Arguments} {body : Expr} {scope : Scope} {lpos pos p : Pos} {tb : DE} (xs N : List Str) (sc : Scope) (CL : CalleeL G X.prog X.w X.K X.mg X.base k j x FL) (hr : Room (k + 1) X.A) (hgd : X.A.guards = some []) (tk : Takes X W)
    (T : TabT G X.base X.mg c P (X.env.qual ++ "<lambda>")) (L : lamNB N sc scope xs = true) (hd : LamDef params X.env xs.length) (hB : LamB params body scope xs)
    (hbody : ∀ (A : Around) (outer : List Env) (s : Shared) (H : Hp) (E : XK) (f c' : Addr), Room j (A.deeper (LamX.lamEnv X scope s.heap.objs.size f c')) → (A.deeper (LamX.lamEnv X scope s.heap.objs.size f c')).guards = some [] → Takes (LamX.lamCx X A outer s H E scope f c') (fun c d _ H' => E c d H') →
      PD G (LamX.lamCx X A outer s H E scope f c') (fun c d _ H' => E c d H') body tb)
    (eN : X.N = N := by rfl) (eS : X.env.scope = sc := by rfl) (hcode : X.env.code = .ref c := by rfl) (hg : Gl X x := by rfl) (hdb : (x == ("__debug__" : Str)) = false := by decide) :
    PD G X W (.Call (.Name x p) [.Lambda params body scope lpos] [] pos) (dLam FL tb) :=
  pd_lam CL hr hgd hg tk T.tb hcode T.mem T.one (lamN_by (by rw [eN, eS]; exact L)) hd hB hbody hdb
end
end DL
namespace DL
open PySem PySem.Spec PyProof.Rows L2

/-! ### except (A, B) as e -/
theorem flying_keeps {B h h' : Heap} {l : List Env} {a : Addr} {Z : Obj → Prop} (x : HandSPX.FlyingZ B l a Z h) (k : ∀ b o, h.get? b = some o → h'.get? b = some o) : HandSPX.FlyingZ B l a Z h' := by
  obtain ⟨x1, x2, x3, oe, vs, T, oT, ts, y1, y2, y3, y4, y5, y6, y7, y8, y9⟩ := x
  exact ⟨fun b o e => k _ _ (x1 b o e), x2, x3.of_keeps fun b o e _ => ⟨o, k _ _ e, rfl⟩, oe, vs, T, oT, ts, k _ _ y1, y2, y3, y4, y5, y6, k _ _ y7, y8, y9⟩
def wAsK2 (K : PySem.W.Frag) (c c2 : Value) (i : Nat) (ts : TS) (Wout : WX) (D : Ends) : WX := fun cls d σ H =>
  ∃ b, PySem.W.exmAny K cls [c, c2] = some b ∧ (b = true → ∀ a, H a = none → ∃ C, cls = .ref C ∧ ts { nx := fun σ' H' => D.nx (σ'.set i none) H', rt := D.rt, bk := fun σ' H' => D.bk (σ'.set i none) H', ct := fun σ' H' => D.ct (σ'.set i none) H' } (σ.set i (some (.ref a))) (upd H a (.ext (excPhi C d a)))) ∧
    (b = false → Wout cls d σ H)
section
variable {X : Cx} {x x2 n : Str} {c c2 : Value} {i kk : Nat} {body suite : List Stmt} {b₀ : Stmt} {np np2 tpos pos pos' : Pos} {tb : WX → TS} {ts : TS} {Wout : WX}
theorem ps_try_keep2 (hs : X.stack = X.env :: X.outer) (hf : X.env.frame = some X.env.locals) (hex : X.ex = []) (hN : X.N.Nodup) (hi : X.N[i]? = some n) (hln : X.env.kindOf n = some .local) (hc : Names X x c) (hc2 : Names X x2 c2) (tk : Takes X Wout)
    (hb : ∀ (W : WX) (pn : List (Addr × Obj)) (xe : Value → Shared → Prop), Takes (X.tr pn xe) W → PassesOwn (model X.prog X.w) X.A X.env xe → PSs (X.tr pn xe) body (tb W))
    (hsu : ∀ (a : Addr) (pn : List (Addr × Obj)), PSs (X.suite a pn) (b₀ :: suite) ts) :
    PS X (.Try body [.ExceptHandler (some (.Tuple [.Name x np, .Name x2 np2] kk tpos)) (some n) (b₀ :: suite) pos'] [] [] pos) (fun D σ H => tb (wAsK2 X.K c c2 i ts Wout D) D σ H) := by
  refine ⟨fun pins s σ H D I h => ?_⟩
  have ok := I.ok
  have hfr : X.A.frames = some (X.env :: X.outer) := by rw [ok.frames, hs]
  have hloc : Loc X.env.scope n := .inl hln
  refine wpAny_Try_except ?_
  refine wpAny_mono ((hb (wAsK2 X.K c c2 i ts Wout D) (X.pn ++ pins) (fun e s₁ => wpAny (model X.prog X.w) X.A (noteFrame e X.env) (fun _ s₂ => wpAny (model X.prog X.w) X.A (setFlight e none) (fun _ s₃ =>
    wpAny (model X.prog X.w) X.A (handleBy e X.env [.ExceptHandler (some (.Tuple [.Name x np, .Name x2 np2] kk tpos)) (some n) (b₀ :: suite) pos']) (SP X pins D) X.xe s₃) X.xe s₂) X.xe s₁) (fun u s' xx => ?_) PassesOwn.looking).run [] s σ H D (I.toTry _) h) (fun f s1 hsp => ?_) (fun e s1 he => he)
  · -- the catch
    obtain ⟨a, B, sI, pins', σ', H', cls, d, rfl, J', nb, up, sky, na, os, ag, b, hb1, hyes, hno⟩ := xx
    have J : Inv X pins σ' H' sI := J'.ofTry ok
    have sky' : Sky B (X.env :: X.outer) a (Zc cls d) X.env.locals s'.heap := by rw [← hs]; exact sky
    show wpAny (model X.prog X.w) X.A (noteFrame (.ref a) X.env) _ _ _
    refine Sky.land Zc.steady hfr hf sky' fun h3 fl3 up3 => ?_
    have J3 : Inv X pins σ' H' { s' with heap := h3 } := J.landed nb fl3.1 (up.trans up3) os ag
    obtain ⟨oe3, vs3, he3, hz3, hd3⟩ := fl3.there
    have notFr : ∀ {h : Heap} {o : Obj} {vs : Array Value}, h.FunFrames B (X.env :: X.outer) → h.get? a = some o → o.data = .fields vs → a ∉ frs (X.env :: X.outer) := fun {h o vs} ff e dd hm => by
      obtain ⟨_, o', e', hnf⟩ := ff.mem hm
      rw [e] at e'; cases e'
      exact hnf _ dd
    have nfr := notFr fl3.2.2.1 he3 hd3
    have nL : a ≠ X.env.locals := fun z => nfr (List.mem_filterMap.mpr ⟨X.env, List.mem_cons_self, by rw [hf, z]⟩)
    have nF : a ∉ X.fs := fun hm => by
      obtain ⟨e, he, q⟩ := List.mem_filterMap.mp hm
      exact nfr (List.mem_filterMap.mpr ⟨e, List.mem_cons_of_mem _ he, q⟩)
    have nI : sI.heap.get? a = none := by
      cases q : sI.heap.get? a with
      | none => rfl
      | some o =>
        have z := nb a o q (by rw [hs]; exact nfr)
        rw [fl3.2.1] at z
        cases z
    have n0 : X.s_0.heap.get? a = none := by
      cases q : X.s_0.heap.get? a with
      | none => rfl
      | some o =>
        obtain ⟨o', z⟩ := J.base.there a o q (by rw [hex]; simp)
        rw [nI] at z
        cases z
    have npn : ∀ p ∈ X.pn ++ pins, p.1 ≠ a := fun p hp z => by
      obtain ⟨q, _⟩ := J.pin p hp
      rw [z, nI] at q
      cases q
    have S3 := J3.suite he3 hd3 na nL nF
    refine wpAny_handleBy_cons (codeAny_handlers_test ?_) (by intro q; cases q)
    have LT : PySem.W.Looks (model X.prog X.w) h3 (typeOf (.ref a)) cls := fun A Q E s k q => wpAny_typeOf_ref (k _ _ he3) (by rw [hz3.1]; exact q)
    have test1 : ∀ {Q : Value → Shared → Prop} {E : Value → Shared → Prop}, Q c { s' with heap := h3 } → wpAny (model X.prog X.w) (X.A.mark (some (.ref a))) (eval (.Name x np) X.env) Q E { s' with heap := h3 } := fun {Q E} q => by
      obtain ⟨hg, hdbg, hm | ⟨hm, hv, hnn⟩⟩ := hc
      · exact ld_glob (X := X.suite a ((a, oe3) :: (X.pn ++ pins))) S3 hg hm q hdbg
      · exact ld_blt (X := X.suite a ((a, oe3) :: (X.pn ++ pins))) S3 hg hm hv q hnn hdbg
    have test2 : ∀ {Q : Value → Shared → Prop} {E : Value → Shared → Prop}, Q c2 { s' with heap := h3 } → wpAny (model X.prog X.w) (X.A.mark (some (.ref a))) (eval (.Name x2 np2) X.env) Q E { s' with heap := h3 } := fun {Q E} q => by
      obtain ⟨hg, hdbg, hm | ⟨hm, hv, hnn⟩⟩ := hc2
      · exact ld_glob (X := X.suite a ((a, oe3) :: (X.pn ++ pins))) S3 hg hm q hdbg
      · exact ld_blt (X := X.suite a ((a, oe3) :: (X.pn ++ pins))) S3 hg hm hv q hnn hdbg
    refine wpAny_Tuple (wpAny_items_cons (test1 (wpAny_items_cons (test2 (wpAny_items_nil ⟨by size_fits, ?_⟩)))))
    have kp : ∀ q o, h3.get? q = some o → (h3.push { cls := .type "tuple", data := .seq [c, c2].toArray }).get? q = some o := fun _ _ z => Heap.get?_push_of_some _ z
    have LM := (PySem.W.exm_tup2 (M := model X.prog X.w) (J3.kIn.keeps kp) (LT.keeps kp) (Heap.get?_push_size h3 rfl) hb1)
    have fl3 := flying_keeps fl3 kp
    have up3 : s'.heap.UpToSlots (h3.push { cls := .type "tuple", data := .seq [c, c2].toArray }) := fun b o e hd => by
      obtain ⟨sl, q⟩ := up3 b o e hd
      exact ⟨sl, kp _ _ q⟩
    generalize h3.push { cls := .type "tuple", data := .seq [c, c2].toArray } = h3 at *
    refine LM.here ?_
    cases b with
    | true =>
      refine codeAny_handlers_suite_as ?_
      refine HandSPX.lands_againZ fl3 fun h4 fl4 up4 => ?_
      have J4 : Inv X pins σ' H' { s' with heap := h4 } := J.landed nb fl4.1 ((up.trans up3).trans up4) os ag
      obtain ⟨oe4, vs4, he4, hz4, hd4⟩ := fl4.there
      obtain ⟨C, ec, hyes⟩ := hyes rfl a na
      have S4 := Inv.suiteK J4 he4 (hz4.1.trans ec) hz4.2 hd4 na nL n0 npn
      refine store_ok (X := X.suite a (X.pn ++ pins)) (v := .ref a) S4 hN hi hloc rfl (fun s5 S5 => ?_) (.inr hln)
      refine wpAny_mono ((hsu a (X.pn ++ pins)).run [] s5 _ _ _ S5 hyes) (fun f s6 hsp => ?_) (fun _ _ z => False.elim z)
      have end_ : ∀ {σ6 : L2.St} {H6 : Hp} {Q : Shared → Prop}, Inv (X.suite a (X.pn ++ pins)) [] σ6 H6 s6 → (∀ s7, Inv X pins (σ6.set i none) H6 s7 → Q s7) →
          wpAny (model X.prog X.w) X.A (do bindName X.env n .none; unbindBehindTheSuite X.env n pos') (fun _ s7 => Q s7) X.xe s6 := fun {σ6 H6 Q} S6 hq => gone_ok (Inv.unsuiteK S6 ok) hN hi hln hq
      cases f with
      | next =>
        obtain ⟨σ6, H6, S6, q6⟩ := hsp
        exact end_ S6 fun s7 J7 => ⟨_, _, J7, q6⟩
      | brk =>
        obtain ⟨σ6, H6, S6, q6⟩ := hsp
        exact end_ S6 fun s7 J7 => ⟨_, _, J7, q6⟩
      | cont =>
        obtain ⟨σ6, H6, S6, q6⟩ := hsp
        exact end_ S6 fun s7 J7 => ⟨_, _, J7, q6⟩
      | ret u =>
        obtain ⟨v6, σ6, H6, S6, r6, q6⟩ := hsp
        exact end_ S6 fun s7 J7 => ⟨_, _, _, J7, r6, q6⟩
    | false =>
      show wpAny _ X.A (handleBy (.ref a) X.env []) _ _ _
      refine wpAny_handleBy_nil ?_
      obtain ⟨k1, k2, k3, oe, vs, T, oT, ts', he, hz, hd, h1, hr⟩ := id fl3
      unfold PySem.passOn
      refine wpAny_bind (wpAny_field he hd h1 ?_)
      rw [if_neg (show ¬ ((Value.ref T == Value.none) = true) from by simp)]
      have fin : wpAny (model X.prog X.w) X.A (setFlight (.ref a) X.env.frame) (fun _ s4 => wpAny (model X.prog X.w) X.A (throw (.ref a) : Sem Flow) (SP X pins D) X.xe s4) X.xe { s' with heap := h3 } := by
        rw [hf]
        refine HandSPX.setFlight_upZ fl3 fun h4 hh4 up4 => wpAny_throw (tk _ _ ?_)
        exact ⟨a, B, sI, pins, σ', H', cls, d, rfl, J, nb, (up.trans up3).trans up4, .inr (.inr (by rw [hs]; exact hh4)), na, os, ag, hno rfl⟩
      first
        | exact wpAny_bind (wpAny_pure (wpAny_bind fin))
        | exact wpAny_bind fin
  · cases f with
    | next =>
      obtain ⟨σ', H', J', q⟩ := hsp
      exact wpAny_execs_nil ⟨σ', H', J'.ofTry ok, q⟩
    | brk =>
      obtain ⟨σ', H', J', q⟩ := hsp
      exact ⟨σ', H', J'.ofTry ok, q⟩
    | cont =>
      obtain ⟨σ', H', J', q⟩ := hsp
      exact ⟨σ', H', J'.ofTry ok, q⟩
    | ret u =>
      obtain ⟨v, σ', H', J', r, q⟩ := hsp
      exact ⟨v, σ', H', J'.ofTry ok, r, q⟩
end
section
variable {G : GT} {W : WX} {X : Cx} {x x2 n : Str} {c c2 : Value} {kk : Nat} {body suite : List Stmt} {b₀ : Stmt} {np np2 tpos pos pos' : Pos} {tb ts : DS} {catch_ : Nat → Option Bool}
theorem pds_try2 (i : Nat) (hs : X.stack = X.env :: X.outer) (hf : X.env.frame = some X.env.locals) (hex : X.ex = []) (hN : X.N.Nodup) (hc : Names X x c) (hc2 : Names X x2 c2) (hcat : ∀ k b, catch_ k = some b → PySem.W.exmAny X.K (.ref (G k)) [c, c2] = some b) (tk : Takes X W)
    (hb : ∀ (W' : WX) (pn : List (Addr × Obj)) (xe : Value → Shared → Prop), Takes (X.tr pn xe) W' → PassesOwn (model X.prog X.w) X.A X.env xe → PDSs G (X.tr pn xe) W' body tb)
    (hsu : ∀ (a : Addr) (pn : List (Addr × Obj)), PDSs G (X.suite a pn) (fun _ _ _ _ => False) (b₀ :: suite) ts) (hi : X.N[i]? = some n := by rfl) (hln : X.env.kindOf n = some .local := by rfl) :
    PDS G X W (.Try body [.ExceptHandler (some (.Tuple [.Name x np, .Name x2 np2] kk tpos)) (some n) (b₀ :: suite) pos'] [] [] pos) (dTry i catch_ tb ts) :=
  ⟨PS.wk (ps_try_keep2 (tb := fun W' => liftS G W' tb) (ts := liftS G (fun _ _ _ _ => False) ts) hs hf hex hN hi hln hc hc2 tk (fun W' pn xe t p => (hb W' pn xe t p).ps) (fun a pn => (hsu a pn).ps)) fun D σ H _ h => by
    obtain ⟨ow, s, Dd, E, q, L⟩ := h
    refine ⟨ow, s, _, E, q, ⟨L.nx, L.rt, L.bk, L.ct, fun x s' qx c' d σ' H' ow' e' E' RX => ?_⟩⟩
    obtain ⟨b, hcb, qx⟩ := bindO_some qx
    obtain ⟨ec, da, _, v, ed, od, hd, R⟩ := id RX
    subst ec
    subst ed
    refine ⟨b, hcat _ _ hcb, fun hbt a na => ⟨G x.k, rfl, ?_⟩, fun hbf => ?_⟩
    · subst hbt
      have e3 : Ext ow' H' (ow1 ow' a none) (upd H' a (.ext (excPhi (G x.k) (some da) a))) := Ext.new na
      have nd : da ≠ a := fun z => by rw [z, na] at hd; cases hd
      refine ⟨_, _, _, (E'.ext_new (o := .ext (excPhi (G x.k) (some da) a)) na (w := none) rfl).set (i := i) (v := .ref a) (sv := .v (.exc x.k x.d)) ?_, qx, ?_⟩
      · show Rep _ _ _ (.exc x.k x.d) (.ref a)
        rw [Rep]
        exact ⟨a, v, rfl, ow1_same, .inl ⟨da, (), upd_same, by rw [ow1_ne nd]; exact od, by rw [upd_ne nd]; exact hd⟩, Rep.ext e3 _ _ R⟩
      · have ee := e'.trans e3
        exact ⟨fun s2 q2 σ2 H2 ow2 e2 E2 => L.nx _ q2 _ _ _ (ee.trans e2) (E2.unset i), fun r s2 q2 v2 σ2 H2 ow2 e2 E2 R2 => by
            obtain ⟨g, q2⟩ := guardB_and q2
            exact L.rt _ _ q2 _ _ _ _ (ee.trans e2) (E2.unset i) ((R2.set (i := i) g).from ee), fun s2 q2 σ2 H2 ow2 e2 E2 => L.bk _ q2 _ _ _ (ee.trans e2) (E2.unset i), fun s2 q2 σ2 H2 ow2 e2 E2 => L.ct _ q2 _ _ _ (ee.trans e2) (E2.unset i), fun _ _ z => z.elim⟩
    · subst hbf
      exact L.ex x s' qx _ _ σ' H' ow' e' E' RX⟩

/-- the classes of the text that (j, j2) catches -/
def isX2 (cs : List Nat) (j j2 : Nat) : Nat → Option Bool := fun k => match isX cs j k, isX cs j2 k with
  | some a, some b => some (a || b)
  | _, _ => none
theorem pds_tryX2 {cs : List Nat} (i j j2 : Nat) (hs : X.stack = X.env :: X.outer) (hf : X.env.frame = some X.env.locals) (hex : X.ex = []) (hN : X.N.Nodup) (hx : X.mg x = some (.ref (G j))) (hx2 : X.mg x2 = some (.ref (G j2))) (T : CatT cs G X.K j) (T2 : CatT cs G X.K j2) (tk : Takes X W)
    (hb : ∀ (W' : WX) (pn : List (Addr × Obj)) (xe : Value → Shared → Prop), Takes (X.tr pn xe) W' → PassesOwn (model X.prog X.w) X.A X.env xe → PDSs G (X.tr pn xe) W' body tb)
    (hsu : ∀ (a : Addr) (pn : List (Addr × Obj)), PDSs G (X.suite a pn) (fun _ _ _ _ => False) (b₀ :: suite) ts) (hg : Gl X x := by rfl) (hd : (x == ("__debug__" : Str)) = false := by decide) (hg2 : Gl X x2 := by rfl) (hd2 : (x2 == ("__debug__" : Str)) = false := by decide)
    (hi : X.N[i]? = some n := by rfl) (hln : X.env.kindOf n = some .local := by rfl) :
    PDS G X W (.Try body [.ExceptHandler (some (.Tuple [.Name x np, .Name x2 np2] kk tpos)) (some n) (b₀ :: suite) pos'] [] [] pos) (dTry i (isX2 cs j j2) tb ts) :=
  pds_try2 i hs hf hex hN ⟨hg, hd, .inl hx⟩ ⟨hg2, hd2, .inl hx2⟩ (fun k b h => by
    unfold isX2 at h
    split at h
    · rename_i a a2 e1 e2
      cases h
      have h1 := T.cat_ k a e1
      have h2 := T2.cat_ k a2 e2
      simp only [PySem.W.exmAny, h1, h2, Bool.or_false]
    · cases h) tk hb hsu hi hln
end
section
variable {G : GT} {X : Cx} {W : WX}
theorem pd_lamK {x : Str} {FL : Clo → Den → Den} {k j : Nat} {c P : Addr} {params : Arguments} {body : Expr} {scope : Scope} {lpos pos p : Pos} {tb : DE} (xs : List Str) (CL : CalleeL G X.prog X.w X.K X.mg X.base k j x FL) (hr : Room (k + 1) X.A) (hgd : X.A.guards = some []) (tk : Takes X W)
    (T : TabT G X.base X.mg c P (X.env.qual ++ "<lambda>")) (L : lamNB X.N X.env.scope scope xs = true) (hd : LamDef params X.env xs.length) (hB : LamB params body scope xs)
    (hbody : ∀ (A : Around) (outer : List Env) (s : Shared) (H : Hp) (E : XK) (f c' : Addr), Room j (A.deeper (LamX.lamEnv X scope s.heap.objs.size f c')) → (A.deeper (LamX.lamEnv X scope s.heap.objs.size f c')).guards = some [] → Takes (LamX.lamCx X A outer s H E scope f c') (fun c d _ H' => E c d H') →
      PD G (LamX.lamCx X A outer s H E scope f c') (fun c d _ H' => E c d H') body tb)
    (hcode : X.env.code = .ref c := by rfl) (hg : Gl X x := by rfl) (hdb : (x == ("__debug__" : Str)) = false := by decide) :
    PD G X W (.Call (.Name x p) [.Lambda params body scope lpos] [] pos) (dLam FL tb) :=
  pd_lam CL hr hgd hg tk T.tb hcode T.mem T.one (lamN_by L) hd hB hbody hdb
end
end DL
namespace DL
open PySem PySem.Spec PyProof.Rows L2

/-! ### a tuple times a number beyond 1000 -/
def rRepB (K : PySem.W.Frag) : R2 := fun x y H Q => ∃ l k xs, x = .ref l ∧ y = .int k ∧ SqT K H l xs ∧ xs ≠ [] ∧ 2 ≤ k ∧ k ≤ 2000 ∧ xs.length ≤ 1000 ∧ ∀ (p : Addr) (o : Obj), H p = none → o.dict = none → Q (.ref p) (upd H p (.frz o (.tup (List.replicate k.toNat xs).flatten)))
theorem op_repB {X : Cx} : OpR X (binaryOp .Mult) (rRepB X.K) := by
  intro pins s σ H x y v u Q I rx ry h
  obtain ⟨l, k, xs, rfl, rfl, hT, ne, k1, k2, xl, q⟩ := h
  cases rx; obtain ⟨t, rfl⟩ := ry
  obtain ⟨its, r, ⟨⟨c0, dd, dt, sl⟩, ho, e1, n, e2⟩, hs⟩ := I.tuple hT
  simp only at e1 e2; subst e1 e2
  have il : its.length = xs.length := r.length.symm
  have i0 : its.toArray.isEmpty = false := by
    cases its with
    | nil => cases xs with
      | nil => exact absurd rfl ne
      | cons _ _ => cases il
    | cons a b => rfl
  have az : its.toArray.size = xs.length := by rw [List.size_toArray, il]
  have mz : ((its.toArray.size : Nat) : Int) * k ≤ 2000000 := by
    rw [az]; have : ((xs.length : Nat) : Int) * k ≤ 1000 * k := Int.mul_le_mul_of_nonneg_right (by omega) (by omega)
    omega
  have fz : (List.replicate k.toNat its).flatten.length ≤ sizeLine := by
    rw [PyProof.Rows.lm_len_rep_flat, il, sizeLine_eq]; have : k.toNat * xs.length ≤ 2000 * 1000 := Nat.mul_le_mul (by omega) xl
    omega
  have g0 : (decide (k < -(2 ^ 63)) || decide (k ≥ 2 ^ 63)) = false := by rw [decide_eq_false (by omega), decide_eq_false (by omega)] <;> rfl
  have g1 : (its.toArray.isEmpty || k == 1) = false := by rw [i0, Bool.false_or]; exact beq_eq_false_iff_ne.mpr (by omega)
  have g2 : (decide (k ≤ 0) || its.toArray.isEmpty) = false := by rw [i0, Bool.or_false]; exact decide_eq_false (by omega)
  have g4 : Builtin.Tuple.tupleTooMany (((its.toArray.size : Nat) : Int) * k) = false := by unfold Builtin.Tuple.tupleTooMany; rw [sizeLine_eq]; exact decide_eq_false (by omega)
  have fin := tuple_mulW l its.toArray n dd sl k t g0 g1 g2 (by omega) g4 (by rw [size_rep, List.size_toArray]; exact fz)
  refine wpAny_binaryOp_repeat_ref (T := "tuple") (U := "int") (by decide) ⟨_, ho, rfl⟩ (fun z => typeIs_int z k t) noFill_tuple_mul F.fills_int_mul F.slot_int_rmul repeat_tuple F.slot_int_index.lookup (call_meets F.slot_int_rmul (typeIs_int s k t) F.entry_int_rmul (F.args_int_rmul_2 _ _) (int_rmul_tuple k t l its.toArray n dd sl) ⟨ho, rfl, ⟨_, ho, rfl⟩, call_meets F.slot_tuple_mul ⟨_, ho, rfl⟩ F.entry_tuple_mul (F.args_tuple_mul_2 _ _) fin ⟨ho, ?_⟩⟩)
  rw [size_rep]
  refine ⟨.ref s.heap.objs.size, _, I.laid (t' := s.toks) (o := .frz { cls := .type "tuple", data := .seq (List.replicate k.toNat its).flatten.toArray } (.tup (List.replicate k.toNat xs).flatten)) (fun b ob z => Heap.get?_push_of_some _ z) (Nat.le_refl _) ?_, rfl, q _ _ (I.hok.fresh (Nat.le_refl _)) rfl⟩
  refine ⟨Heap.get?_push_size _ rfl, ?_, _, Vals.repK r _, IsTup.new _ _⟩
  rw [PyProof.Rows.lm_len_rep_flat, ← il, ← PyProof.Rows.lm_len_rep_flat]; exact fz
def gMulB : DOp := fun d e => match d, e with
  | .lds l, .int k => ifB (decide (2 ≤ k) && decide (k ≤ 2000) && (decide (1 ≤ l.length) && decide (l.length ≤ 1000))) (some (.v (.lds (repD k.toNat l))))
  | _, _ => none
theorem od_mulB {G : GT} {K : PySem.W.Frag} : OpD G (rRepB K) gMulB := by
  intro σ s ow ow0 H H0 x y d1 d2 z Q ft E e0 v1 v2 hz F
  unfold gMulB at hz
  split at hz
  · obtain ⟨h, hz⟩ := ifB_some hz
    cases hz
    simp only [Bool.and_eq_true, decide_eq_true_eq] at h
    obtain ⟨⟨h1, h2⟩, h3, h4⟩ := h
    obtain ⟨a, xs, rfl, t1, r1⟩ := v1.lds
    have hl := r1.length
    exact ⟨a, _, xs, rfl, v2.int, t1.sq, fun z => by subst z; simp at hl; omega, h1, h2, by omega, fun p o hp od => F.lds E hp od (r1.rep _)⟩
  · cases hz
end DL
namespace DL
open PySem PySem.Spec PyProof.Rows L2

/-! ### repr of data: how long it is -/
mutual
def gd : D → Bool
  | .non => true
  | .bl _ => true
  | .int i => decide (i.natAbs < 10 ^ 30)
  | .str s => PyData.strOk s && decide ((reprText s).length ≤ 100) && PyData.strOk (reprText s)
  | .lst l => gdL l
  | .lds l => gdL l
  | .dic tb ks vs => !tb && ks.isEmpty && vs.isEmpty
  | _ => false
def gdL : List D → Bool
  | [] => true
  | d :: l => gd d && gdL l
end
mutual
def szD : D → Nat
  | .tup l => 1 + szL l
  | .lst l => 1 + szL l
  | .lds l => 1 + szL l
  | _ => 1
def szL : List D → Nat
  | [] => 0
  | d :: l => szD d + szL l
end
theorem textFrom_up : ∀ (ts : List Str) (k : Nat) (acc : Str), (textFrom k acc ts).length ≤ acc.length + piled ts
  | [], k, acc => by simp [textFrom, piled]
  | t :: r, k, acc => by
    have h := textFrom_up r (k + 1) (acc ++ (if k > 0 then ", " else "" : String) ++ t)
    have e : (acc ++ (if k > 0 then ", " else "" : String) ++ t).length = acc.length + (if k > 0 then 2 else 0) + t.length := by
      rw [strLen_append, strLen_append]
      split <;> rfl
    have e2 : piled (t :: r) = t.length + 2 + piled r := by simp [piled]
    show (textFrom (k + 1) (acc ++ (if k > 0 then ", " else "" : String) ++ t) r).length ≤ _
    have e3 : (if k > 0 then 2 else 0) ≤ 2 := by split <;> omega
    omega
theorem listText_len (ts : List Str) : (listText ts).length ≤ piled ts + 2 := by
  unfold listText
  have h := textFrom_up ts 0 "["
  rw [strLen_append]
  have e1 : (("[" : String) : Str).length = 1 := rfl
  have e2 : (("]" : String) : Str).length = 1 := rfl
  omega
theorem tupleText_len (ts : List Str) : (tupleText ts).length ≤ piled ts + 3 := by
  unfold tupleText
  rw [strLen_append, strLen_append]
  have e1 : (("(" : String) : Str).length = 1 := rfl
  have e2 : (if ts.length == 1 then ((",)" : String) : Str) else ((")" : String) : Str)).length ≤ 2 := by split <;> decide
  have e3 : (Str.join ", " ts).length ≤ piled ts := by
    by_cases h : ts = []
    · subst h; show 0 ≤ _; omega
    · have := join_length_add ts h; omega
  have e4 : ((if ts.length == 1 then ",)" else ")" : String) : Str) = if ts.length == 1 then ((",)" : String) : Str) else ((")" : String) : Str) := by split <;> rfl
  rw [e4]
  omega
theorem intToString_length (i : Int) : (toString i).length = (if i < 0 then 1 else 0) + (Nat.toDigits 10 i.natAbs).length := by
  cases i with
  | ofNat n =>
    show (Nat.repr n).length = _
    unfold Nat.repr
    rw [String.length_ofList]
    simp
  | negSucc n =>
    show ("-" ++ Nat.repr (n + 1)).length = _
    rw [String.length_append]
    unfold Nat.repr
    have : Int.negSucc n < 0 := by omega
    rw [if_pos this]
    show 1 + (String.ofList (Nat.toDigits 10 (n + 1))).length = _
    rw [String.length_ofList]
    rfl
theorem int_len {i : Int} (h : i.natAbs < 10 ^ 30) : (PyData.int i).shown.length ≤ 31 := by
  have h1 := toDigits_len_pow (b := 10) (k := 30) (by decide) (by decide) h
  simp only [PyData.shown]
  show (Str.ofString (toString i)).length ≤ 31
  rw [PyProof.Rows.ofString_len]
  rw [intToString_length]
  split <;> omega
mutual
theorem shown_len : ∀ (d : D), gd d = true → (pyOf d).shown.length + 2 ≤ 110 * szD d
  | .non, h => by simp only [pyOf, PyData.shown, szD]; decide
  | .bl b, h => by simp only [pyOf, PyData.shown, szD]; cases b <;> decide
  | .int i, h => by
    simp only [gd, decide_eq_true_eq] at h
    have := int_len h
    simp only [pyOf, szD]
    omega
  | .str s, h => by
    simp only [gd, Bool.and_eq_true, decide_eq_true_eq] at h
    simp only [pyOf, PyData.shown, szD]
    omega
  | .tup l, h => by simp [gd] at h
  | .lst l, h => by
    simp only [gd] at h
    have := shownL_len l h
    simp only [pyOf, PyData.shown, szD]
    have := listText_len (PyData.shownAll (pyL l))
    omega
  | .lds l, h => by
    simp only [gd] at h
    have := shownL_len l h
    simp only [pyOf, PyData.shown, szD]
    have := tupleText_len (PyData.shownAll (pyL l))
    omega
  | .dic tb ks vs, h => by
    simp only [gd, Bool.and_eq_true, List.isEmpty_iff] at h
    obtain ⟨⟨_, rfl⟩, rfl⟩ := h
    simp only [pyOf, pyL, List.zip_nil_left, PyData.shown, PyData.shownKv, szD]
    decide
  | .exc _ _, h => by simp [gd] at h
  | .obj _, h => by simp [gd] at h
  | .dr, h => by simp [gd] at h
  | .fn _, h => by simp [gd] at h
  | .clo _ _ _ _ _, h => by simp [gd] at h
  | .scr _, h => by simp [gd] at h
theorem shownL_len : ∀ (l : List D), gdL l = true → piled (PyData.shownAll (pyL l)) ≤ 110 * szL l
  | [], h => by simp [pyL, PyData.shownAll, piled]
  | d :: l, h => by
    simp only [gdL, Bool.and_eq_true] at h
    have h1 := shown_len d h.1
    have h2 := shownL_len l h.2
    simp only [pyL, PyData.shownAll, szL]
    have e2 : piled ((pyOf d).shown :: PyData.shownAll (pyL l)) = (pyOf d).shown.length + 2 + piled (PyData.shownAll (pyL l)) := by simp [piled]
    omega
end
mutual
theorem gd_showable : ∀ (d : D), gd d = true → (pyOf d).showable = true
  | .non, h => by simp [pyOf, PyData.showable]
  | .bl b, h => by simp [pyOf, PyData.showable]
  | .int i, h => by
    simp only [gd, decide_eq_true_eq] at h
    simp only [pyOf, PyData.showable, decide_eq_true_eq]
    by_cases z : i.natAbs = 0
    · rw [z]; decide
    · exact (Nat.log2_lt z).mpr (Nat.lt_of_lt_of_le h (by decide +kernel))
  | .str s, h => by simp [pyOf, PyData.showable]
  | .tup l, h => by simp [gd] at h
  | .lst l, h => by
    simp only [gd] at h
    simp only [pyOf, PyData.showable]
    exact gdL_showable l h
  | .lds l, h => by
    simp only [gd] at h
    simp only [pyOf, PyData.showable]
    exact gdL_showable l h
  | .dic tb ks vs, h => by
    simp only [gd, Bool.and_eq_true, List.isEmpty_iff] at h
    obtain ⟨⟨_, rfl⟩, rfl⟩ := h
    simp [pyOf, pyL, PyData.showable, PyData.showableKv]
  | .exc _ _, h => by simp [gd] at h
  | .obj _, h => by simp [gd] at h
  | .dr, h => by simp [gd] at h
  | .fn _, h => by simp [gd] at h
  | .clo _ _ _ _ _, h => by simp [gd] at h
  | .scr _, h => by simp [gd] at h
theorem gdL_showable : ∀ (l : List D), gdL l = true → PyData.showableAll (pyL l) = true
  | [], h => by simp [pyL, PyData.showableAll]
  | d :: l, h => by
    simp only [gdL, Bool.and_eq_true] at h
    simp only [pyL, PyData.showableAll, Bool.and_eq_true]
    exact ⟨gd_showable d h.1, gdL_showable l h.2⟩
end
mutual
/-- how deep -/
def dpD : D → Nat
  | .tup l => 1 + dpL l
  | .lst l => 1 + dpL l
  | .lds l => 1 + dpL l
  | .dic _ _ _ => 1
  | _ => 0
def dpL : List D → Nat
  | [] => 0
  | d :: l => max (dpD d) (dpL l)
end
mutual
theorem gd_okR : ∀ (n : Nat) (d : D), gd d = true → dpD d ≤ n → okR n d = true
  | n, .non, h, _ => by simp [okR]
  | n, .bl b, h, _ => by simp [okR]
  | n, .int i, h, _ => by simp [okR]
  | n, .str s, h, _ => by
    simp only [gd, Bool.and_eq_true, decide_eq_true_eq] at h
    simp only [okR]; exact h.1.1
  | n, .tup l, h, _ => by simp [gd] at h
  | 0, .lst l, h, k => by simp only [dpD] at k; omega
  | n + 1, .lst l, h, k => by simp only [gd] at h; simp only [dpD] at k; simp only [okR]; exact gdL_okR n l h (by omega)
  | 0, .lds l, h, k => by simp only [dpD] at k; omega
  | n + 1, .lds l, h, k => by simp only [gd] at h; simp only [dpD] at k; simp only [okR]; exact gdL_okR n l h (by omega)
  | 0, .dic tb ks vs, h, k => by simp only [dpD] at k; omega
  | n + 1, .dic tb ks vs, h, k => by simp only [gd] at h; simp only [okR]; exact h
  | n, .exc _ _, h, _ => by simp [gd] at h
  | n, .obj _, h, _ => by simp [gd] at h
  | n, .dr, h, _ => by simp [gd] at h
  | n, .fn _, h, _ => by simp [gd] at h
  | n, .clo _ _ _ _ _, h, _ => by simp [gd] at h
  | n, .scr _, h, _ => by simp [gd] at h
theorem gdL_okR : ∀ (n : Nat) (l : List D), gdL l = true → dpL l ≤ n → okRL n l = true
  | n, [], h, _ => by simp [okRL]
  | n, d :: l, h, k => by
    simp only [gdL, Bool.and_eq_true] at h
    simp only [dpL] at k
    simp only [okRL, Bool.and_eq_true]
    exact ⟨gd_okR n d h.1 (by omega), gdL_okR n l h.2 (by omega)⟩
end
def shD (d : D) : Str := (pyOf d).shown
theorem gRepr_ok {d : D} (h : gd d = true) (hs : szD d ≤ 100000) (hd : dpD d ≤ 60) : gRepr d = some (.v (.str (shD d))) := by
  unfold gRepr
  have h1 := gd_okR 60 d h hd
  have h2 := gd_showable d h
  have h3 : fitN (pyOf d).shown.length = true := by
    unfold fitN
    have := shown_len d h
    exact decide_eq_true (by omega)
  rw [h1, h2, h3]
  rfl
end DL
namespace DL
open PySem PySem.Spec PyProof.Rows L2

/-! ### comprehensions and walks over data -/
section
variable {g : Gst} {Q : Rv → Gst → Prop} {E : Xd → Gst → Prop}
theorem lc_gen {pat : Pat} {vs : List Nat} {tt : DT} {te : DE} {s0 : Sd} {Q' : DK} {E' : DX} (st : D → Sd) (c : D → Bool) (f : D → D) : ∀ (l : List D), (∀ d ∈ l, patStore pat d (s0.wipe vs) = some (st d)) → (∀ d ∈ l, s0.back (st d) vs = s0) →
    (∀ d ∈ l, ∀ Q1 E1, Q1 (c d) (st d) → tt (st d) Q1 E1) → (∀ d ∈ l, c d = true → ∀ (Q1 : DK) E1, Q1 (.v (f d)) (st d) → te (st d) Q1 E1) → ∀ acc, Q' (.ol (acc ++ (l.filter c).map f)) s0 → lcD pat tt te vs s0 Q' E' l acc s0
  | [], _, _, _, _, acc, q => by simpa [lcD] using q
  | d :: l, hp, hb, ht, he, acc, q => by
    have ih := lc_gen (Q' := Q') (tt := tt) (te := te) (E' := E') st c f l (fun x hx => hp x (List.mem_cons_of_mem _ hx)) (fun x hx => hb x (List.mem_cons_of_mem _ hx)) (fun x hx => ht x (List.mem_cons_of_mem _ hx)) fun x hx => he x (List.mem_cons_of_mem _ hx)
    have m := List.mem_cons_self (a := d) (l := l)
    rw [lcD, hp d m]
    show tt (st d) _ E'
    refine ht d m _ _ ?_
    cases hc : c d with
    | true =>
      refine he d m hc _ _ ?_
      show lcD pat tt te vs s0 Q' E' l (acc ++ [f d]) (s0.back (st d) vs)
      rw [hb d m]
      refine ih _ ?_
      rw [List.filter_cons_of_pos hc] at q
      simpa using q
    | false =>
      show lcD pat tt te vs s0 Q' E' l acc (s0.back (st d) vs)
      rw [hb d m]
      refine ih _ ?_
      rw [List.filter_cons_of_neg (by rw [hc]; decide)] at q
      exact q
/-- [f(x) for x in l] -/
theorem lc_map {p : Nat} {te : DE} {s0 : Sd} {Q' : DK} {E' : DX} (f : D → D) {l : List D} (hb : ∀ d, s0.back ((s0.wipe [p]).put p (.v d)) [p] = s0) (he : ∀ d ∈ l, ∀ (Q1 : DK) E1, Q1 (.v (f d)) ((s0.wipe [p]).put p (.v d)) → te ((s0.wipe [p]).put p (.v d)) Q1 E1)
    (q : Q' (.ol (l.map f)) s0) : lcD (.nm p) dYes te [p] s0 Q' E' l [] s0 := by
  refine lc_gen (fun d => (s0.wipe [p]).put p (.v d)) (fun _ => true) f l (fun _ _ => rfl) (fun d _ => hb d) (fun _ _ Q1 E1 h => h) (fun d hd _ => he d hd) [] ?_
  rw [List.filter_eq_self.mpr (fun _ _ => rfl)]
  exact q
/-- a for -/
theorem for_gen {pat : Pat} {tb : DS} {D1 : Dn} (I : Nat → Sd → Prop) : ∀ (l : List D) (k : Nat) (s : Sd), I k s →
    (∀ i d s (N : Sd → Prop), l[i]? = some d → I (k + i) s → (∀ s', I (k + i + 1) s' → N s') → bindO (patStore pat d s) fun s1 => tb { D1 with nx := N, ct := N, bk := D1.nx } s1) → (∀ s, I (k + l.length) s → D1.nx s) → forD pat tb D1 l s
  | [], k, s, h0, hs, hd => hd s h0
  | d :: l, k, s, h0, hs, hd => by
    refine hs 0 d s _ rfl h0 fun s' h' => ?_
    refine for_gen I l (k + 1) s' h' (fun i d s N hl hi hN => ?_) fun s h => hd s ?_
    rotate_left
    · have e : k + 1 + l.length = k + (d :: l).length := by simp only [List.length_cons]; omega
      rw [← e]
      exact h
    have e : k + 1 + i = k + (i + 1) := by omega
    rw [e] at hi hN
    exact hs (i + 1) d s N hl hi hN
theorem blsOf_mapF (f : D → Bool) : ∀ l : List D, blsOf (l.map fun d => D.bl (f d)) = some (l.map f)
  | [] => rfl
  | d :: l => by
    show (blsOf (l.map fun d => D.bl (f d))).map (f d :: ·) = _
    rw [blsOf_mapF f l]
    rfl
theorem all_id (f : D → Bool) (l : List D) : (l.map f).all _root_.id = l.all f := by
  rw [List.all_map]; rfl
theorem gAll_map (f : D → Bool) (l : List D) : gAll (.lst (l.map fun d => D.bl (f d))) = some (.v (.bl (l.all f))) := by
  unfold gAll
  simp only [blsOf_mapF, Option.map_some, all_id]
theorem gdL_mem : ∀ {l : List D} {d : D}, gdL l = true → d ∈ l → gd d = true
  | _ :: _, d, h, m => by
    simp only [gdL, Bool.and_eq_true] at h
    rcases List.mem_cons.mp m with z | z
    · subst z; exact h.1
    · exact gdL_mem h.2 z
theorem atI_nat0 {l : List D} {k : Nat} {d : D} (h : l[k]? = some d) : atI l (k : Int) = some d := by
  have hk : k < l.length := by
    rcases List.getElem?_eq_some_iff.mp h with ⟨h, _⟩
    exact h
  unfold atI ixN
  rw [if_pos (by omega), if_pos (by omega)]
  simpa using h
theorem gNe_ii {i j : Int} : gNe (.int i) (.int j) = rB (!(i == j)) := rfl
theorem gEq_ii {i j : Int} : gEq (.int i) (.int j) = rB (i == j) := rfl
theorem gNe_l0 {l : List D} : gNe (.lst l) (.lst []) = rB (!l.isEmpty) := rfl
theorem gEq_l0 {l : List D} : gEq (.lst l) (.lst []) = rB l.isEmpty := rfl
theorem gNe_t0 {l : List D} : gNe (.lds l) (.lds []) = rB (!l.isEmpty) := rfl
theorem gEq_t0 {l : List D} : gEq (.lds l) (.lds []) = rB l.isEmpty := rfl
theorem gLen_t {l : List D} : gLen (.lds l) = some (.v (.int (l.length : Nat))) := rfl
theorem gLen_l {l : List D} : gLen (.lst l) = some (.v (.int (l.length : Nat))) := rfl
theorem gIx_t {l : List D} {i : Int} : gIx (.lds l) (.int i) = (atI l i).map .v := rfl
theorem gIx_l {l : List D} {i : Int} : gIx (.lst l) (.int i) = (atI l i).map .v := rfl
theorem atI_0 {x : D} {r : List D} : atI (x :: r) 0 = some x := atI_nat0 (k := 0) rfl
theorem atI_1 {x y : D} {r : List D} : atI (x :: y :: r) 1 = some y := atI_nat0 (k := 1) rfl
theorem atI_2 {x y z : D} {r : List D} : atI (x :: y :: z :: r) 2 = some z := atI_nat0 (k := 2) rfl
theorem atI_3 {x y z u : D} {r : List D} : atI (x :: y :: z :: u :: r) 3 = some u := atI_nat0 (k := 3) rfl
theorem atI_4 {x y z u v : D} {r : List D} : atI (x :: y :: z :: u :: v :: r) 4 = some v := atI_nat0 (k := 4) rfl
end
/-! ### draws -/
section
variable {g : Gst} {Q : Rv → Gst → Prop} {E : Xd → Gst → Prop}
theorem next_ok {n : Int} (h0 : 0 < n) (h1 : n < 1000000) (q : ∀ i, 0 ≤ i → i < n → Q (.v (.int i)) g) : den__law_next [.dr, .int n] g Q E := ⟨n, rfl, h0, h1, q⟩
theorem atI_mem {l : List D} {i : Int} (h0 : 0 ≤ i) (h1 : i < l.length) : ∃ x, x ∈ l ∧ atI l i = some x := by
  obtain ⟨k, rfl⟩ := Int.eq_ofNat_of_zero_le h0
  have hk : k < l.length := by omega
  exact ⟨l[k], List.getElem_mem hk, atI_nat0 (List.getElem?_eq_getElem hk)⟩
theorem gIx_mem {l : List D} {i : Int} (h0 : 0 ≤ i) (h1 : i < l.length) : ∃ x, x ∈ l ∧ gIx (.lst l) (.int i) = some (.v x) := by
  obtain ⟨x, m, e⟩ := atI_mem h0 h1
  exact ⟨x, m, by rw [gIx_l, e]; rfl⟩
/-- a comprehension whose items are drawn -/
theorem lc_rel {pat : Pat} {vs : List Nat} {te : DE} {s0 : Sd} {Q' : DK} {E' : DX} (st : D → Sd) (P : D → Prop) : ∀ (l : List D), (∀ d ∈ l, patStore pat d (s0.wipe vs) = some (st d)) → (∀ d ∈ l, s0.back (st d) vs = s0) →
    (∀ d ∈ l, ∀ (Q1 : DK) E1, (∀ r, P r → Q1 (.v r) (st d)) → te (st d) Q1 E1) → ∀ acc, (∀ rs, rs.length = l.length → (∀ r ∈ rs, P r) → Q' (.ol (acc ++ rs)) s0) → lcD pat dYes te vs s0 Q' E' l acc s0
  | [], _, _, _, acc, q => by simpa [lcD] using q [] rfl (by simp)
  | d :: l, hp, hb, he, acc, q => by
    have ih := lc_rel (Q' := Q') (te := te) (E' := E') st P l (fun x hx => hp x (List.mem_cons_of_mem _ hx)) (fun x hx => hb x (List.mem_cons_of_mem _ hx)) fun x hx => he x (List.mem_cons_of_mem _ hx)
    have m := List.mem_cons_self (a := d) (l := l)
    rw [lcD, hp d m]
    show te (st d) _ E'
    refine he d m _ _ fun r hr => ?_
    show lcD pat dYes te vs s0 Q' E' l (acc ++ [r]) (s0.back (st d) vs)
    rw [hb d m]
    refine ih _ fun rs hl hrs => ?_
    have := q (r :: rs) (by simp [hl]) (fun x hx => (List.mem_cons.mp hx).elim (fun e => by rw [e]; exact hr) (hrs x))
    simpa using this
theorem rangeD_len {lo : Int} {n : Nat} : (rangeD lo n).length = n := by simp [rangeD]
theorem rangeD_get {lo : Int} {n i : Nat} {d : D} (h : (rangeD lo n)[i]? = some d) : d = .int (lo + (i : Int)) ∧ i < n := by
  unfold rangeD at h
  rw [List.getElem?_map, Option.map_eq_some_iff] at h
  obtain ⟨k, hk, rfl⟩ := h
  rcases List.getElem?_eq_some_iff.mp hk with ⟨h1, h2⟩
  rw [List.length_range] at h1
  rw [List.getElem_range] at h2
  subst h2
  exact ⟨rfl, h1⟩
theorem rangeD_mem {lo : Int} {n : Nat} {d : D} (h : d ∈ rangeD lo n) : ∃ i : Nat, i < n ∧ d = .int (lo + (i : Int)) := by
  obtain ⟨i, hi⟩ := List.getElem?_of_mem h
  exact ⟨i, (rangeD_get hi).2, (rangeD_get hi).1⟩
theorem intsD_map : ∀ ns : List Int, intsD (ns.map D.int) = some ns
  | [] => rfl
  | n :: ns => by
    show (intsD (ns.map D.int)).map _ = _
    rw [intsD_map ns]
    rfl
end
/-! ### the texts of repr may be compared -/
theorem strOk_ofString (s : String) : PyData.strOk (Str.ofString s) = true := by
  rw [Str.ofString_eq_toList]
  simp only [PyData.strOk, List.all_toArray, List.all_map, List.all_eq_true]
  intro c _
  have := c.valid
  simp only [Function.comp, decide_eq_true_eq]
  rcases this with h | h
  · exact Nat.lt_of_lt_of_le h (by decide)
  · exact h.2
theorem strOk_append {a b : Str} (h : PyData.strOk a = true) (k : PyData.strOk b = true) : PyData.strOk (a ++ b) = true := by
  simp only [PyData.strOk] at h k ⊢
  rw [show (a ++ b).cps = a.cps ++ b.cps from rfl, Array.all_append, h, k]
  rfl
theorem strOk_join {sep : Str} (hs : PyData.strOk sep = true) : ∀ {l : List Str}, (∀ x ∈ l, PyData.strOk x = true) → PyData.strOk (Str.join sep l) = true
  | [], _ => by show PyData.strOk Str.empty = true; decide +kernel
  | [x], h => h x (List.mem_cons_self ..)
  | x :: y :: r, h => by
    show PyData.strOk (x ++ sep ++ Str.join sep (y :: r)) = true
    exact strOk_append (strOk_append (h x (List.mem_cons_self ..)) hs) (strOk_join hs fun z hz => h z (List.mem_cons_of_mem _ hz))
theorem strOk_textFrom : ∀ (ts : List Str) (k : Nat) (acc : Str), PyData.strOk acc = true → (∀ x ∈ ts, PyData.strOk x = true) → PyData.strOk (textFrom k acc ts) = true
  | [], k, acc, h, _ => h
  | t :: r, k, acc, h, ht => by
    show PyData.strOk (textFrom (k + 1) (acc ++ (if k > 0 then ", " else "" : String) ++ t) r) = true
    exact strOk_textFrom r _ _ (strOk_append (strOk_append h (strOk_ofString _)) (ht t (List.mem_cons_self ..))) fun x hx => ht x (List.mem_cons_of_mem _ hx)
theorem strOk_list {ts : List Str} (h : ∀ x ∈ ts, PyData.strOk x = true) : PyData.strOk (listText ts) = true := by
  unfold listText
  exact strOk_append (strOk_textFrom ts 0 _ (strOk_ofString _) h) (strOk_ofString _)
theorem strOk_tuple {ts : List Str} (h : ∀ x ∈ ts, PyData.strOk x = true) : PyData.strOk (tupleText ts) = true := by
  unfold tupleText
  exact strOk_append (strOk_append (strOk_ofString _) (strOk_join (strOk_ofString _) h)) (strOk_ofString _)
mutual
theorem shown_ok : ∀ (d : D), gd d = true → PyData.strOk (pyOf d).shown = true
  | .non, h => by simp only [pyOf, PyData.shown]; exact strOk_ofString _
  | .bl b, h => by simp only [pyOf, PyData.shown]; cases b <;> exact strOk_ofString _
  | .int i, h => by simp only [pyOf, PyData.shown]; exact strOk_ofString _
  | .str s, h => by
    simp only [gd, Bool.and_eq_true, decide_eq_true_eq] at h
    simp only [pyOf, PyData.shown]
    exact h.2
  | .tup l, h => by simp [gd] at h
  | .lst l, h => by
    simp only [gd] at h
    simp only [pyOf, PyData.shown]
    exact strOk_list (shownL_ok l h)
  | .lds l, h => by
    simp only [gd] at h
    simp only [pyOf, PyData.shown]
    exact strOk_tuple (shownL_ok l h)
  | .dic tb ks vs, h => by
    simp only [gd, Bool.and_eq_true, List.isEmpty_iff] at h
    obtain ⟨⟨_, rfl⟩, rfl⟩ := h
    simp only [pyOf, pyL, List.zip_nil_left, PyData.shown, PyData.shownKv]
    decide +kernel
  | .exc _ _, h => by simp [gd] at h
  | .obj _, h => by simp [gd] at h
  | .dr, h => by simp [gd] at h
  | .fn _, h => by simp [gd] at h
  | .clo _ _ _ _ _, h => by simp [gd] at h
  | .scr _, h => by simp [gd] at h
theorem shownL_ok : ∀ (l : List D), gdL l = true → ∀ x ∈ PyData.shownAll (pyL l), PyData.strOk x = true
  | [], h, x, m => by simp [pyL, PyData.shownAll] at m
  | d :: l, h, x, m => by
    simp only [gdL, Bool.and_eq_true] at h
    simp only [pyL, PyData.shownAll] at m
    rcases List.mem_cons.mp m with rfl | m
    · exact shown_ok d h.1
    · exact shownL_ok l h.2 x m
end
theorem gNe_sh {d e : D} (h : gd d = true) (k : gd e = true) : gNe (.str (shD d)) (.str (shD e)) = rB (!(shD d == shD e)) := by
  unfold gNe
  have h1 : okE 64 (.str (shD d)) = true := shown_ok d h
  have h2 : okE 64 (.str (shD e)) = true := shown_ok e k
  simp only [eq0, h1, h2, Bool.and_self, ifB, eqD]
theorem gEq_sh {d e : D} (h : gd d = true) (k : gd e = true) : gEq (.str (shD d)) (.str (shD e)) = rB (shD d == shD e) := by
  unfold gEq
  have h1 : okE 64 (.str (shD d)) = true := shown_ok d h
  have h2 : okE 64 (.str (shD e)) = true := shown_ok e k
  simp only [eq0, h1, h2, Bool.and_self, ifB, eqD]
theorem eqD_refl {n : Nat} {d : D} (h : okE n d = true) : eqD d d = true := by
  rw [eqD_py n n d d h h]
  exact SeqAt.eqv_refl _ (okE_lay _ _ h).1
theorem gNe_refl {d : D} (h : okE 64 d = true) : gNe d d = rB false := by
  unfold gNe
  cases he : eq0 d d with
  | none => simp only [h, Bool.and_self, ifB, eqD_refl h, Bool.not_true]
  | some b =>
    have : b = true := by
      cases d with
      | lst l => cases l <;> simp [eq0] at he; exact he
      | tup l => cases l <;> simp [eq0] at he; exact he
      | lds l => cases l <;> simp [eq0] at he; exact he
      | _ => simp [eq0] at he
    rw [this]
    rfl
end DL
namespace Sag
open PySem PySem.Spec PyProof.Rows L2 DL
def top (i : Nat) : Stmt := PySem.Challenge.pw_sagwire_k51_texts_refused.main.body.getD i (.Pass ⟨0, 0, 0, 0⟩)
structure Bl (mg : Str → Option Value) : Prop where
  none_ : True
  b_all : mg "all" = none
  b_bool : mg "bool" = none
  b_enumerate : mg "enumerate" = none
  b_int : mg "int" = none
  b_isinstance : mg "isinstance" = none
  b_len : mg "len" = none
  b_list : mg "list" = none
  b_max : mg "max" = none
  b_min : mg "min" = none
  b_range : mg "range" = none
  b_repr : mg "repr" = none
  b_str : mg "str" = none
  b_tuple : mg "tuple" = none
structure Cs (G : GT) (mg : Str → Option Value) : Prop where
  none_ : True
  c_DASH : GlC G mg "DASH" (.str "-")
  c_FIGURES : GlC G mg "FIGURES" (.str "0123456789")
  c_FULL : GlC G mg "FULL" (.str "full")
  c_LEAST_LOADS : GlC G mg "LEAST_LOADS" (.int 2)
  c_LIMIT : GlC G mg "LIMIT" (.str "limit")
  c_LOADS : GlC G mg "LOADS" (.str "loads")
  c_MOST_IDLE : GlC G mg "MOST_IDLE" (.int 3)
  c_MOST_LIMIT : GlC G mg "MOST_LIMIT" (.int 6)
  c_MOST_LOAD : GlC G mg "MOST_LOAD" (.int 3)
  c_MOST_LOADS : GlC G mg "MOST_LOADS" (.int 6)
  c_MOST_MOVES_rigs : GlC G mg "MOST_MOVES_rigs" (.int 10)
  c_MOST_MOVES_texts : GlC G mg "MOST_MOVES_texts" (.int 10)
  c_MOST_PART : GlC G mg "MOST_PART" (.int 10000)
  c_MOST_RUN : GlC G mg "MOST_RUN" (.int 1000)
  c_MOST_STANDINGS : GlC G mg "MOST_STANDINGS" (.int 6)
  c_MOST_VOLTS : GlC G mg "MOST_VOLTS" (.int 1000)
  c_MOVE : GlC G mg "MOVE" (.str "move")
  c_MOVE_WORDS : GlC G mg "MOVE_WORDS" (.int 5)
  c_NONE : GlC G mg "NONE" (.str "none")
  c_SAG : GlC G mg "SAG" (.str "sag")
section
variable {P : Program} {w : World} {K : PySem.W.Frag} {mg : Str → Option Value} {base : Heap} {G : GT}
def body_is_whole : DS :=
  (dSeq (dIfS (dOr (dNot (dB (dIsT gIsInt (dVar 0)))) (dB (dIsT gIsBool (dVar 0)))) (dRet (dC (.bl false))) dNext)
    (dRet (dAndV (dOrV (dOp gIsN (dVar 1) (dC .non)) (dOp gGe (dVar 0) (dVar 1))) (dOrV (dOp gIsN (dVar 2) (dC .non)) (dOp gLe (dVar 0) (dVar 2))))))
def den_is_whole : Den := dFn 3 body_is_whole
abbrev N_is_whole : List Str := ["thing", "least", "most"]
theorem sc_is_whole : FnScope N_is_whole ["thing", "least", "most"] (defScope (top 14)) := ⟨rfl, rfl, rfl, by decide +kernel, rfl, by decide +kernel, by decide +kernel⟩
theorem ok_is_whole (B : Bl mg) (C : Cs G mg) (SC : ScrC G K) (X : ExF [0, 1, 3, 6, 8] [0, 1, 3, 6] G P K mg) (SM : SmAt base)  {f : Addr} {fd : FuncData} (hm : mg "is_whole" = some (.ref f)) (F : Fun K "is_whole" "is_whole" (top 14) f fd) : Callee G P w K mg base 1 "is_whole" 3 den_is_whole [] :=
  callee_of hm F sc_is_whole (F.binds fun _ _ _ _ _ _ us hl => match us, hl with | [_, _, _], _ => rfl) fun cdv A outer s H E hr hgd tk => by
    have hN : (N_is_whole).Nodup := sc_is_whole.nd
    exact (pds_cons (pds_if (PDW.pdt (pdw_or (pdt_not (pdt_val (pd_isInt rfl B.b_isinstance rfl B.b_int (pd_var 0)))) (pdw_or1 (pdt_val (pd_isBool rfl B.b_isinstance rfl B.b_bool (pd_var 0)))))) (pds_one (pds_ret pd_bl)) pds_nil)
    (pds_one (pds_ret (pd_and (pd_or (pd_cmp od_is op_isD (pd_var 1) pd_non) (pd_one (pd_cmp od_ge op_ge (pd_var 0) (pd_var 1)))) (pd_one (pd_or (pd_cmp od_is op_isD (pd_var 2) pd_non) (pd_one (pd_cmp od_le op_le (pd_var 0) (pd_var 2)))))))))
def body_common : DS :=
  (dSeq (dWhile (dB (dOp gGt (dVar 1) (dC (.int 0)))) (dPar [0, 1] [(dVar 1), (dOp gMod (dUn gInt (dVar 0)) (dVar 1))]))
    (dRet (dVar 0)))
def den_common : Den := dFn 2 body_common
abbrev N_common : List Str := ["one", "other"]
theorem sc_common : FnScope N_common ["one", "other"] (defScope (top 15)) := ⟨rfl, rfl, rfl, by decide +kernel, rfl, by decide +kernel, by decide +kernel⟩
theorem ok_common (B : Bl mg) (C : Cs G mg) (SC : ScrC G K) (X : ExF [0, 1, 3, 6, 8] [0, 1, 3, 6] G P K mg) (SM : SmAt base)  {f : Addr} {fd : FuncData} (hm : mg "common" = some (.ref f)) (F : Fun K "common" "common" (top 15) f fd) : Callee G P w K mg base 1 "common" 2 den_common [] :=
  callee_of hm F sc_common (F.binds fun _ _ _ _ _ _ us hl => match us, hl with | [_, _], _ => rfl) fun cdv A outer s H E hr hgd tk => by
    have hN : (N_common).Nodup := sc_common.nd
    exact (pds_cons (pds_while (passes_of rfl) (pdt_cmp od_gt op_gt (pd_var 1) pd_int) (pds_one (pds_par2 0 1 rfl hN (pdu_cons (pd_var 1) (pdu_cons (pd_op od_mod op_modN (pd_int1 rfl B.b_int (pd_var 0)) (pd_var 1)) pdu_nil)))))
    (pds_one (pds_ret (pd_var 0))))
def body_is_fraction : DS :=
  (dSeq (dIfS (dOr (dNot (dB (dIsT gIsTup (dVar 0)))) (dOr (dB (dOp gNe (dUn gLen (dVar 0)) (dC (.int 2)))) (dNot (dB (dUn gAll (dLc (dSeqI (dVar 0)) (.nm 2) dYes (dCall den_is_whole 3 [] (dCons (dVar 2) (dCons (dC (.int 1)) (dCons (dVar 1) dNil)))) [2])))))) (dRet (dC (.bl false))) dNext)
    (dRet (dOp gEq (dCall den_common 2 [] (dCons (dOp gIx (dVar 0) (dC (.int 0))) (dCons (dOp gIx (dVar 0) (dC (.int 1))) dNil))) (dC (.int 1)))))
def den_is_fraction : Den := dFn 3 body_is_fraction
abbrev N_is_fraction : List Str := ["thing", "most", "part"]
theorem sc_is_fraction : FnScope N_is_fraction ["thing", "most"] (defScope (top 16)) := ⟨rfl, rfl, rfl, by decide +kernel, rfl, by decide +kernel, by decide +kernel⟩
theorem ok_is_fraction (B : Bl mg) (C : Cs G mg) (SC : ScrC G K) (X : ExF [0, 1, 3, 6, 8] [0, 1, 3, 6] G P K mg) (SM : SmAt base) (c_is_whole : Callee G P w K mg base 1 "is_whole" 3 den_is_whole []) (c_common : Callee G P w K mg base 1 "common" 2 den_common []) {f : Addr} {fd : FuncData} (hm : mg "is_fraction" = some (.ref f)) (F : Fun K "is_fraction" "is_fraction" (top 16) f fd) : Callee G P w K mg base 2 "is_fraction" 2 den_is_fraction [] :=
  callee_of hm F sc_is_fraction (F.binds fun _ _ _ _ _ _ us hl => match us, hl with | [_, _], _ => rfl) fun cdv A outer s H E hr hgd tk => by
    have hN : (N_is_fraction).Nodup := sc_is_fraction.nd
    exact (pds_cons (pds_if (PDW.pdt (pdw_or (pdt_not (pdt_val (pd_isTup rfl B.b_isinstance rfl B.b_tuple (pd_var 0)))) (pdw_or (pdt_cmp od_ne (op_neE (r64 hr)) (pd_len rfl B.b_len (pd_var 0)) pd_int) (pdw_or1 (pdt_not (pdt_val (pd_all1 rfl rfl B.b_all (pd_lc [("part", 2)] rfl hN (pdi_seq (pd_var 0)) (show BlkOk N_is_fraction (defScope (top 16)) _ _ from ⟨rfl, by decide +kernel, by decide +kernel, by decide +kernel, by decide +kernel⟩) (fun _ _ _ _ _ => (pp_name 2 hN)) (fun _ _ _ _ _ => pdts_nil) (fun _ _ _ _ _ => (pd_callC 3 c_is_whole (hr.mono (by decide)) hgd takes0 (pda_cons (pd_var 2) (pda_cons pd_int (pda_cons (pd_var 1) pda_nil))))))))))))) (pds_one (pds_ret pd_bl)) pds_nil)
    (pds_one (pds_ret (pd_cmp od_eq (op_eqE (r64 hr)) (pd_callC 2 c_common (hr.mono (by decide)) hgd tk (pda_cons (pd_ix od_ix (ix_all (r1 hr)) (pd_var 0) pd_int) (pda_cons (pd_ix od_ix (ix_all (r1 hr)) (pd_var 0) pd_int) pda_nil))) pd_int))))
def body_are_loads : DS :=
  (dSeq (dIfS (dOr (dNot (dB (dIsT gIsTup (dVar 0)))) (dNot (dB (dChain gLe gLe (dC (.int 2)) (dUn gLen (dVar 0)) (dC (.int 6)))))) (dRet (dC (.bl false))) dNext)
    (dSeq (dIfS (dOr (dNot (dB (dUn gAll (dLc (dSeqI (dVar 0)) (.nm 1) dYes (dCall den_is_whole 3 [] (dCons (dVar 1) (dCons (dC (.int 0)) (dCons (dC (.int 3)) dNil)))) [1])))) (dB (dOp gNe (dOp gIx (dVar 0) (dC (.int 0))) (dC (.int 0))))) (dRet (dC (.bl false))) dNext)
    (dRet (dOp gLe (dUn gLen (dLc (dSeqI (dVar 0)) (.nm 1) (dB (dOp gEq (dVar 1) (dC (.int 0)))) (dC (.int 1)) [1])) (dC (.int 3))))))
def den_are_loads : Den := dFn 2 body_are_loads
abbrev N_are_loads : List Str := ["thing", "load"]
theorem sc_are_loads : FnScope N_are_loads ["thing"] (defScope (top 17)) := ⟨rfl, rfl, rfl, by decide +kernel, rfl, by decide +kernel, by decide +kernel⟩
theorem ok_are_loads (B : Bl mg) (C : Cs G mg) (SC : ScrC G K) (X : ExF [0, 1, 3, 6, 8] [0, 1, 3, 6] G P K mg) (SM : SmAt base) (c_is_whole : Callee G P w K mg base 1 "is_whole" 3 den_is_whole []) {f : Addr} {fd : FuncData} (hm : mg "are_loads" = some (.ref f)) (F : Fun K "are_loads" "are_loads" (top 17) f fd) : Callee G P w K mg base 2 "are_loads" 1 den_are_loads [] :=
  callee_of hm F sc_are_loads (F.binds fun _ _ _ _ _ _ us hl => match us, hl with | [_], _ => rfl) fun cdv A outer s H E hr hgd tk => by
    have hN : (N_are_loads).Nodup := sc_are_loads.nd
    exact (pds_cons (pds_if (PDW.pdt (pdw_or (pdt_not (pdt_val (pd_isTup rfl B.b_isinstance rfl B.b_tuple (pd_var 0)))) (pdw_or1 (pdt_not (pdt_chain od_le od_le op_le op_le pd_int (pd_len rfl B.b_len (pd_var 0)) (pd_glob C.c_MOST_STANDINGS rfl)))))) (pds_one (pds_ret pd_bl)) pds_nil)
    (pds_cons (pds_if (PDW.pdt (pdw_or (pdt_not (pdt_val (pd_all1 rfl rfl B.b_all (pd_lc [("load", 1)] rfl hN (pdi_seq (pd_var 0)) (show BlkOk N_are_loads (defScope (top 17)) _ _ from ⟨rfl, by decide +kernel, by decide +kernel, by decide +kernel, by decide +kernel⟩) (fun _ _ _ _ _ => (pp_name 1 hN)) (fun _ _ _ _ _ => pdts_nil) (fun _ _ _ _ _ => (pd_callC 3 c_is_whole (hr.mono (by decide)) hgd takes0 (pda_cons (pd_var 1) (pda_cons pd_int (pda_cons (pd_glob C.c_MOST_LOAD rfl) pda_nil))))))))) (pdw_or1 (pdt_cmp od_ne (op_neE (r64 hr)) (pd_ix od_ix (ix_all (r1 hr)) (pd_var 0) pd_int) pd_int)))) (pds_one (pds_ret pd_bl)) pds_nil)
    (pds_one (pds_ret (pd_cmp od_le op_le (pd_len rfl B.b_len (pd_lc [("load", 1)] rfl hN (pdi_seq (pd_var 0)) (show BlkOk N_are_loads (defScope (top 17)) _ _ from ⟨rfl, by decide +kernel, by decide +kernel, by decide +kernel, by decide +kernel⟩) (fun _ _ _ _ _ => (pp_name 1 hN)) (fun _ _ _ _ _ => (pdts_one (pdt_cmp od_eq (op_eqE (r64 hr)) (pd_var 1) pd_int))) (fun _ _ _ _ _ => pd_int))) (pd_glob C.c_MOST_IDLE rfl))))))
def body_is_move_rigs : DS :=
  (dSeq (dIfS (dOr (dNot (dB (dIsT gIsTup (dVar 1)))) (dB (dOp gNe (dUn gLen (dVar 1)) (dC (.int 4))))) (dRet (dC (.bl false))) dNext)
    (dSeq (dIfS (dOr (dNot (dB (dCall den_is_whole 3 [] (dCons (dOp gIx (dVar 1) (dC (.int 0))) (dCons (dC (.int 0)) (dCons (dOp gSub (dVar 0) (dC (.int 1))) dNil)))))) (dOr (dNot (dB (dCall den_is_whole 3 [] (dCons (dOp gIx (dVar 1) (dC (.int 3))) (dCons (dC (.int 0)) (dCons (dOp gSub (dVar 0) (dC (.int 1))) dNil)))))) (dB (dOp gEq (dOp gIx (dVar 1) (dC (.int 0))) (dOp gIx (dVar 1) (dC (.int 3))))))) (dRet (dC (.bl false))) dNext)
    (dSeq (dIfS (dNot (dB (dCall den_is_whole 3 [] (dCons (dOp gIx (dVar 1) (dC (.int 1))) (dCons (dC (.int 0)) (dCons (dC (.int 1000)) dNil)))))) (dRet (dC (.bl false))) dNext)
    (dRet (dOrV (dOp gIsN (dOp gIx (dVar 1) (dC (.int 2))) (dC .non)) (dCall den_is_whole 3 [] (dCons (dOp gIx (dVar 1) (dC (.int 2))) (dCons (dOp gIx (dVar 1) (dC (.int 1))) (dCons (dC (.int 1000)) dNil)))))))))
def den_is_move_rigs : Den := dFn 2 body_is_move_rigs
abbrev N_is_move_rigs : List Str := ["many", "thing"]
theorem sc_is_move_rigs : FnScope N_is_move_rigs ["many", "thing"] (defScope (top 18)) := ⟨rfl, rfl, rfl, by decide +kernel, rfl, by decide +kernel, by decide +kernel⟩
theorem ok_is_move_rigs (B : Bl mg) (C : Cs G mg) (SC : ScrC G K) (X : ExF [0, 1, 3, 6, 8] [0, 1, 3, 6] G P K mg) (SM : SmAt base) (c_is_whole : Callee G P w K mg base 1 "is_whole" 3 den_is_whole []) {f : Addr} {fd : FuncData} (hm : mg "is_move_rigs" = some (.ref f)) (F : Fun K "is_move" "is_move" (top 18) f fd) : Callee G P w K mg base 2 "is_move_rigs" 2 den_is_move_rigs [] :=
  callee_of hm F sc_is_move_rigs (F.binds fun _ _ _ _ _ _ us hl => match us, hl with | [_, _], _ => rfl) fun cdv A outer s H E hr hgd tk => by
    have hN : (N_is_move_rigs).Nodup := sc_is_move_rigs.nd
    exact (pds_cons (pds_if (PDW.pdt (pdw_or (pdt_not (pdt_val (pd_isTup rfl B.b_isinstance rfl B.b_tuple (pd_var 1)))) (pdw_or1 (pdt_cmp od_ne (op_neE (r64 hr)) (pd_len rfl B.b_len (pd_var 1)) pd_int)))) (pds_one (pds_ret pd_bl)) pds_nil)
    (pds_cons (pds_if (PDW.pdt (pdw_or (pdt_not (pdt_val (pd_callC 3 c_is_whole (hr.mono (by decide)) hgd tk (pda_cons (pd_ix od_ix (ix_all (r1 hr)) (pd_var 1) pd_int) (pda_cons pd_int (pda_cons (pd_op od_sub op_sub (pd_var 0) pd_int) pda_nil)))))) (pdw_or (pdt_not (pdt_val (pd_callC 3 c_is_whole (hr.mono (by decide)) hgd tk (pda_cons (pd_ix od_ix (ix_all (r1 hr)) (pd_var 1) pd_int) (pda_cons pd_int (pda_cons (pd_op od_sub op_sub (pd_var 0) pd_int) pda_nil)))))) (pdw_or1 (pdt_cmp od_eq (op_eqE (r64 hr)) (pd_ix od_ix (ix_all (r1 hr)) (pd_var 1) pd_int) (pd_ix od_ix (ix_all (r1 hr)) (pd_var 1) pd_int)))))) (pds_one (pds_ret pd_bl)) pds_nil)
    (pds_cons (pds_if (pdt_not (pdt_val (pd_callC 3 c_is_whole (hr.mono (by decide)) hgd tk (pda_cons (pd_ix od_ix (ix_all (r1 hr)) (pd_var 1) pd_int) (pda_cons pd_int (pda_cons (pd_glob C.c_MOST_VOLTS rfl) pda_nil)))))) (pds_one (pds_ret pd_bl)) pds_nil)
    (pds_one (pds_ret (pd_or (pd_cmp od_is op_isD (pd_ix od_ix (ix_all (r1 hr)) (pd_var 1) pd_int) pd_non) (pd_one (pd_callC 3 c_is_whole (hr.mono (by decide)) hgd tk (pda_cons (pd_ix od_ix (ix_all (r1 hr)) (pd_var 1) pd_int) (pda_cons (pd_ix od_ix (ix_all (r1 hr)) (pd_var 1) pd_int) (pda_cons (pd_glob C.c_MOST_VOLTS rfl) pda_nil)))))))))))
def body_rig_fault : DS :=
  (dSeq (dIfS (dOr (dNot (dB (dIsT gIsTup (dVar 0)))) (dB (dOp gNe (dUn gLen (dVar 0)) (dC (.int 5))))) (dRet (dTupK dNil)) dNext)
    (dSeq (dIfS (dNot (dB (dCall den_are_loads 1 [] (dCons (dOp gIx (dVar 0) (dC (.int 0))) dNil)))) (dRet (dTupK (dCons (dC (.str "loads")) dNil))) dNext)
    (dSeq (dIfS (dOr (dNot (dB (dIsT gIsTup (dOp gIx (dVar 0) (dC (.int 1)))))) (dNot (dB (dChain gLe gLe (dC (.int 1)) (dUn gLen (dOp gIx (dVar 0) (dC (.int 1)))) (dC (.int 10)))))) (dRet (dTupK (dCons (dC (.str "moves")) dNil))) dNext)
    (dSeq (dFor (dEnum (dOp gIx (dVar 0) (dC (.int 1)))) (.tu [1, 2]) (dIfS (dNot (dB (dCall den_is_move_rigs 2 [] (dCons (dUn gLen (dOp gIx (dVar 0) (dC (.int 0)))) (dCons (dVar 2) dNil))))) (dRet (dTupK (dCons (dC (.str "moves")) (dCons (dVar 1) dNil)))) dNext))
    (dSeq (dIfS (dNot (dB (dCall den_is_whole 3 [] (dCons (dOp gIx (dVar 0) (dC (.int 2))) (dCons (dC (.int 1)) (dCons (dC (.int 1000)) dNil)))))) (dRet (dTupK (dCons (dC (.str "full")) dNil))) dNext)
    (dSeq (dIfS (dNot (dB (dCall den_is_whole 3 [] (dCons (dOp gIx (dVar 0) (dC (.int 3))) (dCons (dC (.int 1)) (dCons (dC (.int 6)) dNil)))))) (dRet (dTupK (dCons (dC (.str "limit")) dNil))) dNext)
    (dRet (dIf (dB (dCall den_is_fraction 2 [] (dCons (dOp gIx (dVar 0) (dC (.int 4))) (dCons (dC (.int 10000)) dNil)))) (dC .non) (dTupK (dCons (dC (.str "sag")) dNil))))))))))
def den_rig_fault : Den := dFn 3 body_rig_fault
abbrev N_rig_fault : List Str := ["thing", "number", "move"]
theorem sc_rig_fault : FnScope N_rig_fault ["thing"] (defScope (top 20)) := ⟨rfl, rfl, rfl, by decide +kernel, rfl, by decide +kernel, by decide +kernel⟩
theorem ok_rig_fault (B : Bl mg) (C : Cs G mg) (SC : ScrC G K) (X : ExF [0, 1, 3, 6, 8] [0, 1, 3, 6] G P K mg) (SM : SmAt base) (c_are_loads : Callee G P w K mg base 2 "are_loads" 1 den_are_loads []) (c_is_move_rigs : Callee G P w K mg base 2 "is_move_rigs" 2 den_is_move_rigs []) (c_is_whole : Callee G P w K mg base 1 "is_whole" 3 den_is_whole []) (c_is_fraction : Callee G P w K mg base 2 "is_fraction" 2 den_is_fraction []) {f : Addr} {fd : FuncData} (hm : mg "rig_fault" = some (.ref f)) (F : Fun K "rig_fault" "rig_fault" (top 20) f fd) : Callee G P w K mg base 3 "rig_fault" 1 den_rig_fault [] :=
  callee_of hm F sc_rig_fault (F.binds fun _ _ _ _ _ _ us hl => match us, hl with | [_], _ => rfl) fun cdv A outer s H E hr hgd tk => by
    have hN : (N_rig_fault).Nodup := sc_rig_fault.nd
    exact (pds_cons (pds_if (PDW.pdt (pdw_or (pdt_not (pdt_val (pd_isTup rfl B.b_isinstance rfl B.b_tuple (pd_var 0)))) (pdw_or1 (pdt_cmp od_ne (op_neE (r64 hr)) (pd_len rfl B.b_len (pd_var 0)) pd_int)))) (pds_one (pds_ret (pd_tupD pda_nil))) pds_nil)
    (pds_cons (pds_if (pdt_not (pdt_val (pd_callC 1 c_are_loads (hr.mono (by decide)) hgd tk (pda_cons (pd_ix od_ix (ix_all (r1 hr)) (pd_var 0) pd_int) pda_nil)))) (pds_one (pds_ret (pd_tupD (pda_cons pd_str pda_nil)))) pds_nil)
    (pds_cons (pds_if (PDW.pdt (pdw_or (pdt_not (pdt_val (pd_isTup rfl B.b_isinstance rfl B.b_tuple (pd_ix od_ix (ix_all (r1 hr)) (pd_var 0) pd_int)))) (pdw_or1 (pdt_not (pdt_chain od_le od_le op_le op_le pd_int (pd_len rfl B.b_len (pd_ix od_ix (ix_all (r1 hr)) (pd_var 0) pd_int)) (pd_glob C.c_MOST_MOVES_rigs rfl)))))) (pds_one (pds_ret (pd_tupD (pda_cons pd_str pda_nil)))) pds_nil)
    (pds_cons (pds_for (passes_of rfl) rfl (pdi_enum rfl B.b_enumerate (pd_ix od_ix (ix_all (r1 hr)) (pd_var 0) pd_int)) (pp_tup rfl (pps_cons 1 hN (pps_cons 2 hN pps_nil))) (pds_one (pds_if (pdt_not (pdt_val (pd_callC 2 c_is_move_rigs (hr.mono (by decide)) hgd tk (pda_cons (pd_len rfl B.b_len (pd_ix od_ix (ix_all (r1 hr)) (pd_var 0) pd_int)) (pda_cons (pd_var 2) pda_nil))))) (pds_one (pds_ret (pd_tupD (pda_cons pd_str (pda_cons (pd_var 1) pda_nil))))) pds_nil)))
    (pds_cons (pds_if (pdt_not (pdt_val (pd_callC 3 c_is_whole (hr.mono (by decide)) hgd tk (pda_cons (pd_ix od_ix (ix_all (r1 hr)) (pd_var 0) pd_int) (pda_cons pd_int (pda_cons (pd_glob C.c_MOST_VOLTS rfl) pda_nil)))))) (pds_one (pds_ret (pd_tupD (pda_cons pd_str pda_nil)))) pds_nil)
    (pds_cons (pds_if (pdt_not (pdt_val (pd_callC 3 c_is_whole (hr.mono (by decide)) hgd tk (pda_cons (pd_ix od_ix (ix_all (r1 hr)) (pd_var 0) pd_int) (pda_cons pd_int (pda_cons (pd_glob C.c_MOST_LIMIT rfl) pda_nil)))))) (pds_one (pds_ret (pd_tupD (pda_cons pd_str pda_nil)))) pds_nil)
    (pds_one (pds_ret (pd_if (pdt_val (pd_callC 2 c_is_fraction (hr.mono (by decide)) hgd tk (pda_cons (pd_ix od_ix (ix_all (r1 hr)) (pd_var 0) pd_int) (pda_cons (pd_glob C.c_MOST_PART rfl) pda_nil)))) pd_non (pd_tupD (pda_cons pd_str pda_nil)))))))))))
def body_need_rig : DS :=
  (dSeq (dSet 1 (dCall den_rig_fault 1 [] (dCons (dVar 0) dNil)))
    (dSeq (dIfS (dB (dOp gNotN (dVar 1) (dC .non))) (dRaise 0 (dVar 1)) dNext)
    (dRet (dVar 0))))
def den_need_rig : Den := dFn 2 body_need_rig
abbrev N_need_rig : List Str := ["thing", "place"]
theorem sc_need_rig : FnScope N_need_rig ["thing"] (defScope (top 21)) := ⟨rfl, rfl, rfl, by decide +kernel, rfl, by decide +kernel, by decide +kernel⟩
theorem ok_need_rig (B : Bl mg) (C : Cs G mg) (SC : ScrC G K) (X : ExF [0, 1, 3, 6, 8] [0, 1, 3, 6] G P K mg) (SM : SmAt base) (c_rig_fault : Callee G P w K mg base 3 "rig_fault" 1 den_rig_fault []) (m_0 : mg "BadRig" = some (.ref (G 0))) (T0 : ∃ fI B n i bm, ExT P K (G 0) fI (xfN 0) B n i bm) {f : Addr} {fd : FuncData} (hm : mg "need_rig" = some (.ref f)) (F : Fun K "need_rig" "need_rig" (top 21) f fd) : Callee G P w K mg base 4 "need_rig" 1 den_need_rig [] :=
  callee_of hm F sc_need_rig (F.binds fun _ _ _ _ _ _ us hl => match us, hl with | [_], _ => rfl) fun cdv A outer s H E hr hgd tk => by
    have hN : (N_need_rig).Nodup := sc_need_rig.nd
    exact (pds_cons (pds_set 1 hN (pd_callC 1 c_rig_fault (hr.mono (by decide)) hgd tk (pda_cons (pd_var 0) pda_nil)))
    (pds_cons (pds_if (pdt_cmp od_isnot op_isnotD (pd_var 1) pd_non) (pds_one (pds_raiseE 0 T0 rfl tk hr m_0 (pd_var 1))) pds_nil)
    (pds_one (pds_ret (pd_var 0)))))
def body_number_in : DS :=
  (dSeq (dIfS (dOr (dNot (dB (dChain gLe gLe (dC (.int 1)) (dUn gLen (dVar 0)) (dVar 1)))) (dNot (dB (dUn gAll (dLc (dStrI (dVar 0)) (.nm 2) dYes (dOp gIn (dVar 2) (dC (.str "0123456789"))) [2]))))) (dRet (dC .non)) dNext)
    (dRet (dIf (dAnd (dB (dOp gEq (dOp gIx (dVar 0) (dC (.int 0))) (dC (.str "0")))) (dB (dOp gNe (dVar 0) (dC (.str "0"))))) (dC .non) (dUn gIntS (dVar 0)))))
def den_number_in : Den := dFn 3 body_number_in
abbrev N_number_in : List Str := ["word", "most", "sign"]
theorem sc_number_in : FnScope N_number_in ["word", "most"] (defScope (top 37)) := ⟨rfl, rfl, rfl, by decide +kernel, rfl, by decide +kernel, by decide +kernel⟩
theorem ok_number_in (B : Bl mg) (C : Cs G mg) (SC : ScrC G K) (X : ExF [0, 1, 3, 6, 8] [0, 1, 3, 6] G P K mg) (SM : SmAt base)  {f : Addr} {fd : FuncData} (hm : mg "number_in" = some (.ref f)) (F : FunD K "number_in" "number_in" (defArgs (top 37)) (defBody (top 37)) (defScope (top 37)) [.int 5] [] f fd) : Callee G P w K mg base 1 "number_in" 2 den_number_in [.int 5] :=
  callee_ofD (n := 1) hm F sc_number_in (fun H ow => rep_ints [5]) (by simp) rfl (fun T kV doc pm an cdv ct us its h1 h2 => match us, its, h1, h2 with | [_], [_], _, _ => ⟨_, rfl, rfl⟩) fun cdv A outer s H E hr hgd tk => by
    have hN : (N_number_in).Nodup := sc_number_in.nd
    exact (pds_cons (pds_if (PDW.pdt (pdw_or (pdt_not (pdt_chain od_le od_le op_le op_le pd_int (pd_len rfl B.b_len (pd_var 0)) (pd_var 1))) (pdw_or1 (pdt_not (pdt_val (pd_all1 rfl rfl B.b_all (pd_lc [("sign", 2)] rfl hN (pdi_str (pd_var 0)) (show BlkOk N_number_in (defScope (top 37)) _ _ from ⟨rfl, by decide +kernel, by decide +kernel, by decide +kernel, by decide +kernel⟩) (fun _ _ _ _ _ => (pp_name 2 hN)) (fun _ _ _ _ _ => pdts_nil) (fun _ _ _ _ _ => (pd_cmp od_in (op_inAll (r65 hr)) (pd_var 2) (pd_glob C.c_FIGURES rfl)))))))))) (pds_one (pds_ret pd_non)) pds_nil)
    (pds_one (pds_ret (pd_if (PDW.pdt (pdw_and (pdt_cmp od_eq (op_eqE (r64 hr)) (pd_ix od_ix (ix_all (r1 hr)) (pd_var 0) pd_int) pd_str) (pdw_and1 (pdt_cmp od_ne (op_neE (r64 hr)) (pd_var 0) pd_str)))) pd_non (pd_intS rfl B.b_int (pd_var 0))))))
def body_fraction_in : DS :=
  (dSeq (dSet 1 (dLc (dSeqI (dMS gSplit (dVar 0) (dC (.str "/")))) (.nm 2) dYes (dCall den_number_in 1 [.int 5] (dCons (dVar 2) dNil)) [2]))
    (dRet (dIf (dAnd (dB (dOp gEq (dUn gLen (dVar 1)) (dC (.int 2)))) (dB (dOp gNotIn (dC .non) (dVar 1)))) (dUn gTupK (dVar 1)) (dC .non))))
def den_fraction_in : Den := dFn 3 body_fraction_in
abbrev N_fraction_in : List Str := ["word", "parts", "part"]
theorem sc_fraction_in : FnScope N_fraction_in ["word"] (defScope (top 38)) := ⟨rfl, rfl, rfl, by decide +kernel, rfl, by decide +kernel, by decide +kernel⟩
theorem ok_fraction_in (B : Bl mg) (C : Cs G mg) (SC : ScrC G K) (X : ExF [0, 1, 3, 6, 8] [0, 1, 3, 6] G P K mg) (SM : SmAt base) (c_number_in : Callee G P w K mg base 1 "number_in" 2 den_number_in [.int 5]) {f : Addr} {fd : FuncData} (hm : mg "fraction_in" = some (.ref f)) (F : Fun K "fraction_in" "fraction_in" (top 38) f fd) : Callee G P w K mg base 2 "fraction_in" 1 den_fraction_in [] :=
  callee_of hm F sc_fraction_in (F.binds fun _ _ _ _ _ _ us hl => match us, hl with | [_], _ => rfl) fun cdv A outer s H E hr hgd tk => by
    have hN : (N_fraction_in).Nodup := sc_fraction_in.nd
    exact (pds_cons (pds_setLc 1 [("part", 2)] rfl hN (pdi_seq (pd_split (pd_var 0) pd_str)) (show BlkOk N_fraction_in (defScope (top 38)) _ _ from ⟨rfl, by decide +kernel, by decide +kernel, by decide +kernel, by decide +kernel⟩) (fun _ _ _ _ _ => (pp_name 2 hN)) (fun _ _ _ _ _ => pdts_nil) (fun _ _ _ _ _ => (pd_callC 1 c_number_in (hr.mono (by decide)) hgd takes0 (pda_cons (pd_var 2) pda_nil))))
    (pds_one (pds_ret (pd_if (PDW.pdt (pdw_and (pdt_cmp od_eq (op_eqE (r64 hr)) (pd_len rfl B.b_len (pd_var 1)) pd_int) (pdw_and1 (pdt_cmp od_notin (op_notInAll (r65 hr)) pd_non (pd_var 1))))) (pd_tupK rfl B.b_tuple (pd_var 1)) pd_non))))
def tblV : Nat → Option (Den × List D)
  | 0 => some (den_number_in, [.int 5])
  | 1 => some (den_fraction_in, [])
  | _ => none
def body_rig_text : DS :=
  (dSeq (dUnp (.tu [1, 2, 3, 4, 5]) (dCall den_need_rig 1 [] (dCons (dVar 0) dNil)))
    (dSeq (dSet 6 (dLst (dCons (dMS gJoin (dC (.str " ")) (dOp gAdd (dLst (dCons (dC (.str "loads")) dNil)) (dLc (dSeqI (dVar 1)) (.nm 11) dYes (dUn gStr (dVar 11)) [11]))) dNil)))
    (dSeq (dFor (dSeqI (dVar 2)) (.tu [7, 8, 9, 10]) (dDrop (dAppend (dVar 6) (dMS gJoin (dC (.str " ")) (dLst (dCons (dC (.str "move")) (dCons (dUn gStr (dVar 7)) (dCons (dUn gStr (dVar 8)) (dCons (dIf (dB (dOp gIsN (dVar 9) (dC .non))) (dC (.str "-")) (dUn gStr (dVar 9))) (dCons (dUn gStr (dVar 10)) dNil))))))))))
    (dSeq (dDrop (dAppend (dVar 6) (dJoined [(dFmt (dC (.str "full"))), (dC (.str " ")), (dFmt (dVar 3))])))
    (dSeq (dDrop (dAppend (dVar 6) (dJoined [(dFmt (dC (.str "limit"))), (dC (.str " ")), (dFmt (dVar 4))])))
    (dSeq (dDrop (dAppend (dVar 6) (dJoined [(dFmt (dC (.str "sag"))), (dC (.str " ")), (dFmt (dOp gIx (dVar 5) (dC (.int 0)))), (dC (.str "/")), (dFmt (dOp gIx (dVar 5) (dC (.int 1))))])))
    (dRet (dMS gJoin (dC (.str "\n")) (dVar 6)))))))))
def den_rig_text : Den := dFn 12 body_rig_text
abbrev N_rig_text : List Str := ["rig", "loads", "moves", "full", "limit", "sag", "lines", "begin", "least", "most", "end", "load"]
theorem sc_rig_text : FnScope N_rig_text ["rig"] (defScope (top 39)) := ⟨rfl, rfl, rfl, by decide +kernel, rfl, by decide +kernel, by decide +kernel⟩
theorem ok_rig_text (B : Bl mg) (C : Cs G mg) (SC : ScrC G K) (X : ExF [0, 1, 3, 6, 8] [0, 1, 3, 6] G P K mg) (SM : SmAt base) (c_need_rig : Callee G P w K mg base 4 "need_rig" 1 den_need_rig []) {f : Addr} {fd : FuncData} (hm : mg "rig_text" = some (.ref f)) (F : Fun K "rig_text" "rig_text" (top 39) f fd) : Callee G P w K mg base 5 "rig_text" 1 den_rig_text [] :=
  callee_of hm F sc_rig_text (F.binds fun _ _ _ _ _ _ us hl => match us, hl with | [_], _ => rfl) fun cdv A outer s H E hr hgd tk => by
    have hN : (N_rig_text).Nodup := sc_rig_text.nd
    exact (pds_cons (pds_unp (pp_tup rfl (pps_cons 1 hN (pps_cons 2 hN (pps_cons 3 hN (pps_cons 4 hN (pps_cons 5 hN pps_nil)))))) (pd_callC 1 c_need_rig (hr.mono (by decide)) hgd tk (pda_cons (pd_var 0) pda_nil)))
    (pds_cons (pds_set 6 hN (pd_lst (pda_cons (pd_join pd_str (pd_op od_add op_addD (pd_lst (pda_cons (pd_glob C.c_LOADS rfl) pda_nil)) (pd_lc [("load", 11)] rfl hN (pdi_seq (pd_var 1)) (show BlkOk N_rig_text (defScope (top 39)) _ _ from ⟨rfl, by decide +kernel, by decide +kernel, by decide +kernel, by decide +kernel⟩) (fun _ _ _ _ _ => (pp_name 11 hN)) (fun _ _ _ _ _ => pdts_nil) (fun _ _ _ _ _ => (pd_str1 rfl B.b_str (pd_var 11)))))) pda_nil)))
    (pds_cons (pds_for (passes_of rfl) rfl (pdi_seq (pd_var 2)) (pp_tup rfl (pps_cons 7 hN (pps_cons 8 hN (pps_cons 9 hN (pps_cons 10 hN pps_nil))))) (pds_one (pds_expr (pd_append (pd_var 6) (pd_join pd_str (pd_lst (pda_cons (pd_glob C.c_MOVE rfl) (pda_cons (pd_str1 rfl B.b_str (pd_var 7)) (pda_cons (pd_str1 rfl B.b_str (pd_var 8)) (pda_cons (pd_if (pdt_cmp od_is op_isD (pd_var 9) pd_non) (pd_glob C.c_DASH rfl) (pd_str1 rfl B.b_str (pd_var 9))) (pda_cons (pd_str1 rfl B.b_str (pd_var 10)) pda_nil)))))))))))
    (pds_cons (pds_expr (pd_append (pd_var 6) (pd_joined (pdj_cons (pd_fmt (pd_glob C.c_FULL rfl)) (pdj_cons pd_str (pdj_cons (pd_fmt (pd_var 3)) pdj_nil))))))
    (pds_cons (pds_expr (pd_append (pd_var 6) (pd_joined (pdj_cons (pd_fmt (pd_glob C.c_LIMIT rfl)) (pdj_cons pd_str (pdj_cons (pd_fmt (pd_var 4)) pdj_nil))))))
    (pds_cons (pds_expr (pd_append (pd_var 6) (pd_joined (pdj_cons (pd_fmt (pd_glob C.c_SAG rfl)) (pdj_cons pd_str (pdj_cons (pd_fmt (pd_ix od_ix (ix_all (r1 hr)) (pd_var 5) pd_int)) (pdj_cons pd_str (pdj_cons (pd_fmt (pd_ix od_ix (ix_all (r1 hr)) (pd_var 5) pd_int)) pdj_nil))))))))
    (pds_one (pds_ret (pd_join pd_str (pd_var 6))))))))))
def body_is_move : DS :=
  (dRet (dCall den_is_whole 3 [] (dCons (dVar 1) (dCons (dC (.int 0)) (dCons (dOp gSub (dUn gLen (dOp gIx (dVar 0) (dC (.int 1)))) (dC (.int 1))) dNil)))))
def den_is_move : Den := dFn 2 body_is_move
abbrev N_is_move : List Str := ["rig", "thing"]
theorem sc_is_move : FnScope N_is_move ["rig", "thing"] (defScope (top 40)) := ⟨rfl, rfl, rfl, by decide +kernel, rfl, by decide +kernel, by decide +kernel⟩
theorem ok_is_move (B : Bl mg) (C : Cs G mg) (SC : ScrC G K) (X : ExF [0, 1, 3, 6, 8] [0, 1, 3, 6] G P K mg) (SM : SmAt base) (c_is_whole : Callee G P w K mg base 1 "is_whole" 3 den_is_whole []) {f : Addr} {fd : FuncData} (hm : mg "is_move" = some (.ref f)) (F : Fun K "is_move" "is_move" (top 40) f fd) : Callee G P w K mg base 2 "is_move" 2 den_is_move [] :=
  callee_of hm F sc_is_move (F.binds fun _ _ _ _ _ _ us hl => match us, hl with | [_, _], _ => rfl) fun cdv A outer s H E hr hgd tk => by
    have hN : (N_is_move).Nodup := sc_is_move.nd
    exact (pds_one (pds_ret (pd_callC 3 c_is_whole (hr.mono (by decide)) hgd tk (pda_cons (pd_var 1) (pda_cons pd_int (pda_cons (pd_op od_sub op_sub (pd_len rfl B.b_len (pd_ix od_ix (ix_all (r1 hr)) (pd_var 0) pd_int)) pd_int) pda_nil))))))
def body_run_text : DS :=
  (dSeq (dDrop (dCall den_need_rig 1 [] (dCons (dVar 0) dNil)))
    (dSeq (dIfS (dOr (dNot (dB (dIsT gIsTup (dVar 1)))) (dB (dOp gGt (dUn gLen (dVar 1)) (dC (.int 1000))))) (dRaise 3 (dTupK dNil)) dNext)
    (dSeq (dFor (dEnum (dVar 1)) (.tu [2, 3]) (dIfS (dNot (dB (dCall den_is_move 2 [] (dCons (dVar 0) (dCons (dVar 3) dNil))))) (dRaise 3 (dTupK (dCons (dVar 2) dNil))) dNext))
    (dRet (dIf (dB (dOp gNe (dVar 1) (dTupK dNil))) (dMS gJoin (dC (.str " ")) (dLc (dSeqI (dVar 1)) (.nm 3) dYes (dUn gStr (dVar 3)) [3])) (dC (.str "none")))))))
def den_run_text : Den := dFn 4 body_run_text
abbrev N_run_text : List Str := ["rig", "run", "at", "number"]
theorem sc_run_text : FnScope N_run_text ["rig", "run"] (defScope (top 42)) := ⟨rfl, rfl, rfl, by decide +kernel, rfl, by decide +kernel, by decide +kernel⟩
theorem ok_run_text (B : Bl mg) (C : Cs G mg) (SC : ScrC G K) (X : ExF [0, 1, 3, 6, 8] [0, 1, 3, 6] G P K mg) (SM : SmAt base) (c_need_rig : Callee G P w K mg base 4 "need_rig" 1 den_need_rig []) (c_is_move_texts : Callee G P w K mg base 2 "is_move_texts" 2 den_is_move []) (m_3 : mg "BadRun" = some (.ref (G 3))) (T3 : ∃ fI B n i bm, ExT P K (G 3) fI (xfN 3) B n i bm) {f : Addr} {fd : FuncData} (hm : mg "run_text" = some (.ref f)) (F : Fun K "run_text" "run_text" (top 42) f fd) : Callee G P w K mg base 5 "run_text" 2 den_run_text [] :=
  callee_of hm F sc_run_text (F.binds fun _ _ _ _ _ _ us hl => match us, hl with | [_, _], _ => rfl) fun cdv A outer s H E hr hgd tk => by
    have hN : (N_run_text).Nodup := sc_run_text.nd
    exact (pds_cons (pds_expr (pd_callC 1 c_need_rig (hr.mono (by decide)) hgd tk (pda_cons (pd_var 0) pda_nil)))
    (pds_cons (pds_if (PDW.pdt (pdw_or (pdt_not (pdt_val (pd_isTup rfl B.b_isinstance rfl B.b_tuple (pd_var 1)))) (pdw_or1 (pdt_cmp od_gt op_gt (pd_len rfl B.b_len (pd_var 1)) (pd_glob C.c_MOST_RUN rfl))))) (pds_one (pds_raiseE 3 T3 rfl tk hr m_3 (pd_tupD pda_nil))) pds_nil)
    (pds_cons (pds_for (passes_of rfl) rfl (pdi_enum rfl B.b_enumerate (pd_var 1)) (pp_tup rfl (pps_cons 2 hN (pps_cons 3 hN pps_nil))) (pds_one (pds_if (pdt_not (pdt_val (pd_callC 2 c_is_move_texts (hr.mono (by decide)) hgd tk (pda_cons (pd_var 0) (pda_cons (pd_var 3) pda_nil))))) (pds_one (pds_raiseE 3 T3 rfl tk hr m_3 (pd_tupD (pda_cons (pd_var 2) pda_nil)))) pds_nil)))
    (pds_one (pds_ret (pd_if (pdt_cmp od_ne (op_neE (r64 hr)) (pd_var 1) (pd_tupD pda_nil)) (pd_join pd_str (pd_lc [("number", 3)] rfl hN (pdi_seq (pd_var 1)) (show BlkOk N_run_text (defScope (top 42)) _ _ from ⟨rfl, by decide +kernel, by decide +kernel, by decide +kernel, by decide +kernel⟩) (fun _ _ _ _ _ => (pp_name 3 hN)) (fun _ _ _ _ _ => pdts_nil) (fun _ _ _ _ _ => (pd_str1 rfl B.b_str (pd_var 3))))) (pd_glob C.c_NONE rfl)))))))
def body_need_words : DS :=
  (dSeq (dIfS (dNot (dB (dIsT gIsStr (dVar 0)))) (dRaise 1 (dTupK dNil)) dNext)
    (dRet (dLc (dSeqI (dMS gSplit (dVar 0) (dC (.str "\n")))) (.nm 1) dYes (dMS gSplit (dVar 1) (dC (.str " "))) [1])))
def den_need_words : Den := dFn 2 body_need_words
abbrev N_need_words : List Str := ["text", "line"]
theorem sc_need_words : FnScope N_need_words ["text"] (defScope (top 43)) := ⟨rfl, rfl, rfl, by decide +kernel, rfl, by decide +kernel, by decide +kernel⟩
theorem ok_need_words (B : Bl mg) (C : Cs G mg) (SC : ScrC G K) (X : ExF [0, 1, 3, 6, 8] [0, 1, 3, 6] G P K mg) (SM : SmAt base)  (m_1 : mg "BadText" = some (.ref (G 1))) (T1 : ∃ fI B n i bm, ExT P K (G 1) fI (xfN 1) B n i bm) {f : Addr} {fd : FuncData} (hm : mg "need_words" = some (.ref f)) (F : Fun K "need_words" "need_words" (top 43) f fd) : Callee G P w K mg base 1 "need_words" 1 den_need_words [] :=
  callee_of hm F sc_need_words (F.binds fun _ _ _ _ _ _ us hl => match us, hl with | [_], _ => rfl) fun cdv A outer s H E hr hgd tk => by
    have hN : (N_need_words).Nodup := sc_need_words.nd
    exact (pds_cons (pds_if (pdt_not (pdt_val (pd_isStr rfl B.b_isinstance rfl B.b_str (pd_var 0)))) (pds_one (pds_raiseE 1 T1 rfl tk hr m_1 (pd_tupD pda_nil))) pds_nil)
    (pds_one (pds_ret (pd_lc [("line", 1)] rfl hN (pdi_seq (pd_split (pd_var 0) pd_str)) (show BlkOk N_need_words (defScope (top 43)) _ _ from ⟨rfl, by decide +kernel, by decide +kernel, by decide +kernel, by decide +kernel⟩) (fun _ _ _ _ _ => (pp_name 1 hN)) (fun _ _ _ _ _ => pdts_nil) (fun _ _ _ _ _ => (pd_split (pd_var 1) pd_str))))))
def body_words_at : DS :=
  (dSeq (dIfS (dOr (dB (dOp gGe (dVar 1) (dUn gLen (dVar 0)))) (dB (dOp gNe (dOp gIx (dOp gIx (dVar 0) (dVar 1)) (dC (.int 0))) (dVar 2)))) (dRaise 1 (dTupK (dCons (dVar 1) (dCons (dC (.int 0)) dNil)))) dNext)
    (dRet (dOp gIx (dVar 0) (dVar 1))))
def den_words_at : Den := dFn 3 body_words_at
abbrev N_words_at : List Str := ["lines", "line", "name"]
theorem sc_words_at : FnScope N_words_at ["lines", "line", "name"] (defScope (top 44)) := ⟨rfl, rfl, rfl, by decide +kernel, rfl, by decide +kernel, by decide +kernel⟩
theorem ok_words_at (B : Bl mg) (C : Cs G mg) (SC : ScrC G K) (X : ExF [0, 1, 3, 6, 8] [0, 1, 3, 6] G P K mg) (SM : SmAt base)  (m_1 : mg "BadText" = some (.ref (G 1))) (T1 : ∃ fI B n i bm, ExT P K (G 1) fI (xfN 1) B n i bm) {f : Addr} {fd : FuncData} (hm : mg "words_at" = some (.ref f)) (F : Fun K "words_at" "words_at" (top 44) f fd) : Callee G P w K mg base 1 "words_at" 3 den_words_at [] :=
  callee_of hm F sc_words_at (F.binds fun _ _ _ _ _ _ us hl => match us, hl with | [_, _, _], _ => rfl) fun cdv A outer s H E hr hgd tk => by
    have hN : (N_words_at).Nodup := sc_words_at.nd
    exact (pds_cons (pds_if (PDW.pdt (pdw_or (pdt_cmp od_ge op_ge (pd_var 1) (pd_len rfl B.b_len (pd_var 0))) (pdw_or1 (pdt_cmp od_ne (op_neE (r64 hr)) (pd_ix od_ix (ix_all (r1 hr)) (pd_ix od_ix (ix_all (r1 hr)) (pd_var 0) (pd_var 1)) pd_int) (pd_var 2))))) (pds_one (pds_raiseE 1 T1 rfl tk hr m_1 (pd_tupD (pda_cons (pd_var 1) (pda_cons pd_int pda_nil))))) pds_nil)
    (pds_one (pds_ret (pd_ix od_ix (ix_all (r1 hr)) (pd_var 0) (pd_var 1)))))
def body_need_count : DS :=
  (dSeq (dIfS (dB (dOp gLt (dUn gLen (dVar 0)) (dVar 2))) (dRaise 1 (dTupK (dCons (dVar 1) (dCons (dUn gLen (dVar 0)) dNil)))) dNext)
    (dIfS (dB (dOp gGt (dUn gLen (dVar 0)) (dVar 3))) (dRaise 1 (dTupK (dCons (dVar 1) (dCons (dVar 3) dNil)))) dNext))
def den_need_count : Den := dFn 4 body_need_count
abbrev N_need_count : List Str := ["words", "line", "least", "most"]
theorem sc_need_count : FnScope N_need_count ["words", "line", "least", "most"] (defScope (top 45)) := ⟨rfl, rfl, rfl, by decide +kernel, rfl, by decide +kernel, by decide +kernel⟩
theorem ok_need_count (B : Bl mg) (C : Cs G mg) (SC : ScrC G K) (X : ExF [0, 1, 3, 6, 8] [0, 1, 3, 6] G P K mg) (SM : SmAt base)  (m_1 : mg "BadText" = some (.ref (G 1))) (T1 : ∃ fI B n i bm, ExT P K (G 1) fI (xfN 1) B n i bm) {f : Addr} {fd : FuncData} (hm : mg "need_count" = some (.ref f)) (F : Fun K "need_count" "need_count" (top 45) f fd) : Callee G P w K mg base 1 "need_count" 4 den_need_count [] :=
  callee_of hm F sc_need_count (F.binds fun _ _ _ _ _ _ us hl => match us, hl with | [_, _, _, _], _ => rfl) fun cdv A outer s H E hr hgd tk => by
    have hN : (N_need_count).Nodup := sc_need_count.nd
    exact (pds_cons (pds_if (pdt_cmp od_lt op_lt (pd_len rfl B.b_len (pd_var 0)) (pd_var 2)) (pds_one (pds_raiseE 1 T1 rfl tk hr m_1 (pd_tupD (pda_cons (pd_var 1) (pda_cons (pd_len rfl B.b_len (pd_var 0)) pda_nil))))) pds_nil)
    (pds_one (pds_if (pdt_cmp od_gt op_gt (pd_len rfl B.b_len (pd_var 0)) (pd_var 3)) (pds_one (pds_raiseE 1 T1 rfl tk hr m_1 (pd_tupD (pda_cons (pd_var 1) (pda_cons (pd_var 3) pda_nil))))) pds_nil)))
def body_read_loads : DS :=
  (dSeq (dSet 1 (dLst dNil))
    (dSeq (dFor (dEnum (dSl (dVar 0) (dPart (dC (.int 1))) (dPart (dOp gAdd (dC (.int 6)) (dC (.int 1)))))) (.tu [2, 3]) (dSeq (dIfS (dB (dOp gIsN (dCall den_number_in 1 [.int 5] (dCons (dVar 3) dNil)) (dC .non))) (dRaise 1 (dTupK (dCons (dC (.int 0)) (dCons (dOp gAdd (dVar 2) (dC (.int 1))) dNil)))) dNext)
    (dDrop (dAppend (dVar 1) (dCall den_number_in 1 [.int 5] (dCons (dVar 3) dNil))))))
    (dSeq (dDrop (dCall den_need_count 4 [] (dCons (dVar 0) (dCons (dC (.int 0)) (dCons (dOp gAdd (dC (.int 2)) (dC (.int 1))) (dCons (dOp gAdd (dC (.int 6)) (dC (.int 1))) dNil))))))
    (dRet (dUn gTupK (dVar 1))))))
def den_read_loads : Den := dFn 4 body_read_loads
abbrev N_read_loads : List Str := ["words", "found", "at", "word"]
theorem sc_read_loads : FnScope N_read_loads ["words"] (defScope (top 46)) := ⟨rfl, rfl, rfl, by decide +kernel, rfl, by decide +kernel, by decide +kernel⟩
theorem ok_read_loads (B : Bl mg) (C : Cs G mg) (SC : ScrC G K) (X : ExF [0, 1, 3, 6, 8] [0, 1, 3, 6] G P K mg) (SM : SmAt base) (c_number_in : Callee G P w K mg base 1 "number_in" 2 den_number_in [.int 5]) (c_need_count : Callee G P w K mg base 1 "need_count" 4 den_need_count []) (m_1 : mg "BadText" = some (.ref (G 1))) (T1 : ∃ fI B n i bm, ExT P K (G 1) fI (xfN 1) B n i bm) {f : Addr} {fd : FuncData} (hm : mg "read_loads" = some (.ref f)) (F : Fun K "read_loads" "read_loads" (top 46) f fd) : Callee G P w K mg base 2 "read_loads" 1 den_read_loads [] :=
  callee_of hm F sc_read_loads (F.binds fun _ _ _ _ _ _ us hl => match us, hl with | [_], _ => rfl) fun cdv A outer s H E hr hgd tk => by
    have hN : (N_read_loads).Nodup := sc_read_loads.nd
    exact (pds_cons (pds_set 1 hN (pd_lst pda_nil))
    (pds_cons (pds_for (passes_of rfl) rfl (pdi_enum rfl B.b_enumerate (pd_slice (pd_var 0) (pdo_some pd_int) (pdo_some (pd_op od_add op_addD (pd_glob C.c_MOST_LOADS rfl) pd_int)))) (pp_tup rfl (pps_cons 2 hN (pps_cons 3 hN pps_nil))) (pds_cons (pds_if (pdt_cmp od_is op_isD (pd_callC 1 c_number_in (hr.mono (by decide)) hgd tk (pda_cons (pd_var 3) pda_nil)) pd_non) (pds_one (pds_raiseE 1 T1 rfl tk hr m_1 (pd_tupD (pda_cons pd_int (pda_cons (pd_op od_add op_addD (pd_var 2) pd_int) pda_nil))))) pds_nil)
    (pds_one (pds_expr (pd_append (pd_var 1) (pd_callC 1 c_number_in (hr.mono (by decide)) hgd tk (pda_cons (pd_var 3) pda_nil)))))))
    (pds_cons (pds_expr (pd_callC 4 c_need_count (hr.mono (by decide)) hgd tk (pda_cons (pd_var 0) (pda_cons pd_int (pda_cons (pd_op od_add op_addD (pd_glob C.c_LEAST_LOADS rfl) pd_int) (pda_cons (pd_op od_add op_addD (pd_glob C.c_MOST_LOADS rfl) pd_int) pda_nil))))))
    (pds_one (pds_ret (pd_tupK rfl B.b_tuple (pd_var 1)))))))
def body_read_move : DS :=
  (dSeq (dSet 2 (dLst dNil))
    (dSeq (dFor (dEnum (dSl (dVar 0) (dPart (dC (.int 1))) (dPart (dC (.int 5))))) (.tu [3, 4]) (dSeq (dSet 5 (dCall den_number_in 1 [.int 5] (dCons (dVar 4) dNil)))
    (dSeq (dIfS (dAnd (dB (dOp gIsN (dVar 5) (dC .non))) (dNot (dAnd (dB (dOp gEq (dVar 3) (dC (.int 2)))) (dB (dOp gEq (dVar 4) (dC (.str "-"))))))) (dRaise 1 (dTupK (dCons (dVar 1) (dCons (dOp gAdd (dVar 3) (dC (.int 1))) dNil)))) dNext)
    (dDrop (dAppend (dVar 2) (dVar 5))))))
    (dSeq (dDrop (dCall den_need_count 4 [] (dCons (dVar 0) (dCons (dVar 1) (dCons (dC (.int 5)) (dCons (dC (.int 5)) dNil))))))
    (dRet (dUn gTupK (dVar 2))))))
def den_read_move : Den := dFn 6 body_read_move
abbrev N_read_move : List Str := ["words", "line", "found", "at", "word", "number"]
theorem sc_read_move : FnScope N_read_move ["words", "line"] (defScope (top 47)) := ⟨rfl, rfl, rfl, by decide +kernel, rfl, by decide +kernel, by decide +kernel⟩
theorem ok_read_move (B : Bl mg) (C : Cs G mg) (SC : ScrC G K) (X : ExF [0, 1, 3, 6, 8] [0, 1, 3, 6] G P K mg) (SM : SmAt base) (c_number_in : Callee G P w K mg base 1 "number_in" 2 den_number_in [.int 5]) (c_need_count : Callee G P w K mg base 1 "need_count" 4 den_need_count []) (m_1 : mg "BadText" = some (.ref (G 1))) (T1 : ∃ fI B n i bm, ExT P K (G 1) fI (xfN 1) B n i bm) {f : Addr} {fd : FuncData} (hm : mg "read_move" = some (.ref f)) (F : Fun K "read_move" "read_move" (top 47) f fd) : Callee G P w K mg base 2 "read_move" 2 den_read_move [] :=
  callee_of hm F sc_read_move (F.binds fun _ _ _ _ _ _ us hl => match us, hl with | [_, _], _ => rfl) fun cdv A outer s H E hr hgd tk => by
    have hN : (N_read_move).Nodup := sc_read_move.nd
    exact (pds_cons (pds_set 2 hN (pd_lst pda_nil))
    (pds_cons (pds_for (passes_of rfl) rfl (pdi_enum rfl B.b_enumerate (pd_slice (pd_var 0) (pdo_some pd_int) (pdo_some (pd_glob C.c_MOVE_WORDS rfl)))) (pp_tup rfl (pps_cons 3 hN (pps_cons 4 hN pps_nil))) (pds_cons (pds_set 5 hN (pd_callC 1 c_number_in (hr.mono (by decide)) hgd tk (pda_cons (pd_var 4) pda_nil)))
    (pds_cons (pds_if (PDW.pdt (pdw_and (pdt_cmp od_is op_isD (pd_var 5) pd_non) (pdw_and1 (pdt_not (PDW.pdt (pdw_and (pdt_cmp od_eq (op_eqE (r64 hr)) (pd_var 3) pd_int) (pdw_and1 (pdt_cmp od_eq (op_eqE (r64 hr)) (pd_var 4) (pd_glob C.c_DASH rfl))))))))) (pds_one (pds_raiseE 1 T1 rfl tk hr m_1 (pd_tupD (pda_cons (pd_var 1) (pda_cons (pd_op od_add op_addD (pd_var 3) pd_int) pda_nil))))) pds_nil)
    (pds_one (pds_expr (pd_append (pd_var 2) (pd_var 5)))))))
    (pds_cons (pds_expr (pd_callC 4 c_need_count (hr.mono (by decide)) hgd tk (pda_cons (pd_var 0) (pda_cons (pd_var 1) (pda_cons (pd_glob C.c_MOVE_WORDS rfl) (pda_cons (pd_glob C.c_MOVE_WORDS rfl) pda_nil))))))
    (pds_one (pds_ret (pd_tupK rfl B.b_tuple (pd_var 2)))))))
def body_read_one : DS :=
  (dSeq (dSet 4 (dCall den_words_at 3 [] (dCons (dVar 0) (dCons (dVar 1) (dCons (dVar 2) dNil)))))
    (dSeq (dIfS (dAnd (dB (dOp gGt (dUn gLen (dVar 4)) (dC (.int 1)))) (dB (dOp gIsN (dCallV tblV 3 1 (dCons (dOp gIx (dVar 4) (dC (.int 1))) dNil)) (dC .non)))) (dRaise 1 (dTupK (dCons (dVar 1) (dCons (dC (.int 1)) dNil)))) dNext)
    (dSeq (dDrop (dCall den_need_count 4 [] (dCons (dVar 4) (dCons (dVar 1) (dCons (dC (.int 2)) (dCons (dC (.int 2)) dNil))))))
    (dRet (dCallV tblV 3 1 (dCons (dOp gIx (dVar 4) (dC (.int 1))) dNil))))))
def den_read_one : Den := dFn 5 body_read_one
abbrev N_read_one : List Str := ["lines", "line", "name", "tell", "words"]
theorem sc_read_one : FnScope N_read_one ["lines", "line", "name", "tell"] (defScope (top 48)) := ⟨rfl, rfl, rfl, by decide +kernel, rfl, by decide +kernel, by decide +kernel⟩
theorem ok_read_one (B : Bl mg) (C : Cs G mg) (SC : ScrC G K) (X : ExF [0, 1, 3, 6, 8] [0, 1, 3, 6] G P K mg) (SM : SmAt base) (c_words_at : Callee G P w K mg base 1 "words_at" 3 den_words_at []) (c_need_count : Callee G P w K mg base 1 "need_count" 4 den_need_count []) (m_1 : mg "BadText" = some (.ref (G 1))) (T1 : ∃ fI B n i bm, ExT P K (G 1) fI (xfN 1) B n i bm) (FT : FnT G P w K mg base 2 1 tblV) {f : Addr} {fd : FuncData} (hm : mg "read_one" = some (.ref f)) (F : Fun K "read_one" "read_one" (top 48) f fd) : Callee G P w K mg base 3 "read_one" 4 den_read_one [] :=
  callee_of hm F sc_read_one (F.binds fun _ _ _ _ _ _ us hl => match us, hl with | [_, _, _, _], _ => rfl) fun cdv A outer s H E hr hgd tk => by
    have hN : (N_read_one).Nodup := sc_read_one.nd
    exact (pds_cons (pds_set 4 hN (pd_callC 3 c_words_at (hr.mono (by decide)) hgd tk (pda_cons (pd_var 0) (pda_cons (pd_var 1) (pda_cons (pd_var 2) pda_nil)))))
    (pds_cons (pds_if (PDW.pdt (pdw_and (pdt_cmp od_gt op_gt (pd_len rfl B.b_len (pd_var 4)) pd_int) (pdw_and1 (pdt_cmp od_is op_isD (pd_callV 1 FT (hr.mono (by decide)) hgd tk (pda_cons (pd_ix od_ix (ix_all (r1 hr)) (pd_var 4) pd_int) pda_nil)) pd_non)))) (pds_one (pds_raiseE 1 T1 rfl tk hr m_1 (pd_tupD (pda_cons (pd_var 1) (pda_cons pd_int pda_nil))))) pds_nil)
    (pds_cons (pds_expr (pd_callC 4 c_need_count (hr.mono (by decide)) hgd tk (pda_cons (pd_var 4) (pda_cons (pd_var 1) (pda_cons pd_int (pda_cons pd_int pda_nil))))))
    (pds_one (pds_ret (pd_callV 1 FT (hr.mono (by decide)) hgd tk (pda_cons (pd_ix od_ix (ix_all (r1 hr)) (pd_var 4) pd_int) pda_nil)))))))
def body_read_rig : DS :=
  (dSeq (dSet 1 (dCall den_need_words 1 [] (dCons (dVar 0) dNil)))
    (dSeq (dPar [2, 3] [(dCall den_read_loads 1 [] (dCons (dCall den_words_at 3 [] (dCons (dVar 1) (dCons (dC (.int 0)) (dCons (dC (.str "loads")) dNil)))) dNil)), (dLst dNil)])
    (dSeq (dWhile (dOr (dB (dOp gEq (dVar 3) (dLst dNil))) (dAnd (dB (dOp gLt (dUn gLen (dVar 3)) (dC (.int 10)))) (dAnd (dB (dOp gLt (dOp gAdd (dUn gLen (dVar 3)) (dC (.int 1))) (dUn gLen (dVar 1)))) (dB (dOp gEq (dOp gIx (dOp gIx (dVar 1) (dOp gAdd (dUn gLen (dVar 3)) (dC (.int 1)))) (dC (.int 0))) (dC (.str "move"))))))) (dSeq (dSet 4 (dOp gAdd (dUn gLen (dVar 3)) (dC (.int 1))))
    (dDrop (dAppend (dVar 3) (dCall den_read_move 2 [] (dCons (dCall den_words_at 3 [] (dCons (dVar 1) (dCons (dVar 4) (dCons (dC (.str "move")) dNil)))) (dCons (dVar 4) dNil)))))))
    (dSeq (dSet 5 (dOp gAdd (dUn gLen (dVar 3)) (dC (.int 1))))
    (dSeq (dPar [6, 7] [(dCall den_read_one 4 [] (dCons (dVar 1) (dCons (dVar 5) (dCons (dC (.str "full")) (dCons (dC (.fn 0)) dNil))))), (dCall den_read_one 4 [] (dCons (dVar 1) (dCons (dOp gAdd (dVar 5) (dC (.int 1))) (dCons (dC (.str "limit")) (dCons (dC (.fn 0)) dNil)))))])
    (dSeq (dSet 8 (dCall den_read_one 4 [] (dCons (dVar 1) (dCons (dOp gAdd (dVar 5) (dC (.int 2))) (dCons (dC (.str "sag")) (dCons (dC (.fn 1)) dNil))))))
    (dSeq (dIfS (dB (dOp gGt (dUn gLen (dVar 1)) (dOp gAdd (dVar 5) (dC (.int 3))))) (dRaise 1 (dTupK (dCons (dOp gAdd (dVar 5) (dC (.int 3))) (dCons (dC (.int 0)) dNil)))) dNext)
    (dRet (dCall den_need_rig 1 [] (dCons (dTupK (dCons (dVar 2) (dCons (dUn gTupK (dVar 3)) (dCons (dVar 6) (dCons (dVar 7) (dCons (dVar 8) dNil)))))) dNil))))))))))
def den_read_rig : Den := dFn 9 body_read_rig
abbrev N_read_rig : List Str := ["text", "lines", "loads", "moves", "line", "at", "full", "limit", "sag"]
theorem sc_read_rig : FnScope N_read_rig ["text"] (defScope (top 49)) := ⟨rfl, rfl, rfl, by decide +kernel, rfl, by decide +kernel, by decide +kernel⟩
theorem ok_read_rig (B : Bl mg) (C : Cs G mg) (SC : ScrC G K) (X : ExF [0, 1, 3, 6, 8] [0, 1, 3, 6] G P K mg) (SM : SmAt base) (c_need_words : Callee G P w K mg base 1 "need_words" 1 den_need_words []) (c_words_at : Callee G P w K mg base 1 "words_at" 3 den_words_at []) (c_read_loads : Callee G P w K mg base 2 "read_loads" 1 den_read_loads []) (c_read_move : Callee G P w K mg base 2 "read_move" 2 den_read_move []) (c_read_one : Callee G P w K mg base 3 "read_one" 4 den_read_one []) (c_need_rig : Callee G P w K mg base 4 "need_rig" 1 den_need_rig []) (m_1 : mg "BadText" = some (.ref (G 1))) (T1 : ∃ fI B n i bm, ExT P K (G 1) fI (xfN 1) B n i bm) (fm_number_in : mg "number_in" = some (.ref (G 20))) (fm_fraction_in : mg "fraction_in" = some (.ref (G 21))) {f : Addr} {fd : FuncData} (hm : mg "read_rig" = some (.ref f)) (F : Fun K "read_rig" "read_rig" (top 49) f fd) : Callee G P w K mg base 5 "read_rig" 1 den_read_rig [] :=
  callee_of hm F sc_read_rig (F.binds fun _ _ _ _ _ _ us hl => match us, hl with | [_], _ => rfl) fun cdv A outer s H E hr hgd tk => by
    have hN : (N_read_rig).Nodup := sc_read_rig.nd
    exact (pds_cons (pds_set 1 hN (pd_callC 1 c_need_words (hr.mono (by decide)) hgd tk (pda_cons (pd_var 0) pda_nil)))
    (pds_cons (pds_par2 2 3 rfl hN (pdu_cons (pd_callC 1 c_read_loads (hr.mono (by decide)) hgd tk (pda_cons (pd_callC 3 c_words_at (hr.mono (by decide)) hgd tk (pda_cons (pd_var 1) (pda_cons pd_int (pda_cons (pd_glob C.c_LOADS rfl) pda_nil)))) pda_nil)) (pdu_cons (pd_lst pda_nil) pdu_nil)))
    (pds_cons (pds_while (passes_of rfl) (PDW.pdt (pdw_or (pdt_cmp od_eq (op_eqE (r64 hr)) (pd_var 3) (pd_lst pda_nil)) (pdw_or1 (PDW.pdt (pdw_and (pdt_cmp od_lt op_lt (pd_len rfl B.b_len (pd_var 3)) (pd_glob C.c_MOST_MOVES_texts rfl)) (pdw_and (pdt_cmp od_lt op_lt (pd_op od_add op_addD (pd_len rfl B.b_len (pd_var 3)) pd_int) (pd_len rfl B.b_len (pd_var 1))) (pdw_and1 (pdt_cmp od_eq (op_eqE (r64 hr)) (pd_ix od_ix (ix_all (r1 hr)) (pd_ix od_ix (ix_all (r1 hr)) (pd_var 1) (pd_op od_add op_addD (pd_len rfl B.b_len (pd_var 3)) pd_int)) pd_int) (pd_glob C.c_MOVE rfl))))))))) (pds_cons (pds_set 4 hN (pd_op od_add op_addD (pd_len rfl B.b_len (pd_var 3)) pd_int))
    (pds_one (pds_expr (pd_append (pd_var 3) (pd_callC 2 c_read_move (hr.mono (by decide)) hgd tk (pda_cons (pd_callC 3 c_words_at (hr.mono (by decide)) hgd tk (pda_cons (pd_var 1) (pda_cons (pd_var 4) (pda_cons (pd_glob C.c_MOVE rfl) pda_nil)))) (pda_cons (pd_var 4) pda_nil))))))))
    (pds_cons (pds_set 5 hN (pd_op od_add op_addD (pd_len rfl B.b_len (pd_var 3)) pd_int))
    (pds_cons (pds_par2 6 7 rfl hN (pdu_cons (pd_callC 4 c_read_one (hr.mono (by decide)) hgd tk (pda_cons (pd_var 1) (pda_cons (pd_var 5) (pda_cons (pd_glob C.c_FULL rfl) (pda_cons (pd_fn 0 fm_number_in) pda_nil))))) (pdu_cons (pd_callC 4 c_read_one (hr.mono (by decide)) hgd tk (pda_cons (pd_var 1) (pda_cons (pd_op od_add op_addD (pd_var 5) pd_int) (pda_cons (pd_glob C.c_LIMIT rfl) (pda_cons (pd_fn 0 fm_number_in) pda_nil))))) pdu_nil)))
    (pds_cons (pds_set 8 hN (pd_callC 4 c_read_one (hr.mono (by decide)) hgd tk (pda_cons (pd_var 1) (pda_cons (pd_op od_add op_addD (pd_var 5) pd_int) (pda_cons (pd_glob C.c_SAG rfl) (pda_cons (pd_fn 1 fm_fraction_in) pda_nil))))))
    (pds_cons (pds_if (pdt_cmp od_gt op_gt (pd_len rfl B.b_len (pd_var 1)) (pd_op od_add op_addD (pd_var 5) pd_int)) (pds_one (pds_raiseE 1 T1 rfl tk hr m_1 (pd_tupD (pda_cons (pd_op od_add op_addD (pd_var 5) pd_int) (pda_cons pd_int pda_nil))))) pds_nil)
    (pds_one (pds_ret (pd_callC 1 c_need_rig (hr.mono (by decide)) hgd tk (pda_cons (pd_tupD (pda_cons (pd_var 2) (pda_cons (pd_tupK rfl B.b_tuple (pd_var 3)) (pda_cons (pd_var 6) (pda_cons (pd_var 7) (pda_cons (pd_var 8) pda_nil)))))) pda_nil)))))))))))
def body_read_run : DS :=
  (dSeq (dDrop (dCall den_need_rig 1 [] (dCons (dVar 0) dNil)))
    (dSeq (dSet 2 (dCall den_need_words 1 [] (dCons (dVar 1) dNil)))
    (dSeq (dPar [3, 4] [(dLst dNil), (dOp gIx (dVar 2) (dC (.int 0)))])
    (dSeq (dIfS (dB (dOp gEq (dOp gIx (dVar 4) (dC (.int 0))) (dC (.str "none")))) (dDrop (dCall den_need_count 4 [] (dCons (dVar 4) (dCons (dC (.int 0)) (dCons (dC (.int 1)) (dCons (dC (.int 1)) dNil)))))) (dFor (dEnum (dVar 4)) (.tu [5, 6]) (dSeq (dSet 7 (dCall den_number_in 1 [.int 5] (dCons (dVar 6) dNil)))
    (dSeq (dIfS (dOr (dB (dOp gIsN (dVar 7) (dC .non))) (dNot (dB (dCall den_is_move 2 [] (dCons (dVar 0) (dCons (dVar 7) dNil)))))) (dRaise 1 (dTupK (dCons (dC (.int 0)) (dCons (dVar 5) dNil)))) dNext)
    (dDrop (dAppend (dVar 3) (dVar 7)))))))
    (dSeq (dIfS (dB (dOp gGt (dUn gLen (dVar 2)) (dC (.int 1)))) (dRaise 1 (dTupK (dCons (dC (.int 1)) (dCons (dC (.int 0)) dNil)))) dNext)
    (dRet (dUn gTupK (dVar 3))))))))
def den_read_run : Den := dFn 8 body_read_run
abbrev N_read_run : List Str := ["rig", "text", "lines", "found", "words", "at", "word", "number"]
theorem sc_read_run : FnScope N_read_run ["rig", "text"] (defScope (top 50)) := ⟨rfl, rfl, rfl, by decide +kernel, rfl, by decide +kernel, by decide +kernel⟩
theorem ok_read_run (B : Bl mg) (C : Cs G mg) (SC : ScrC G K) (X : ExF [0, 1, 3, 6, 8] [0, 1, 3, 6] G P K mg) (SM : SmAt base) (c_need_rig : Callee G P w K mg base 4 "need_rig" 1 den_need_rig []) (c_need_words : Callee G P w K mg base 1 "need_words" 1 den_need_words []) (c_need_count : Callee G P w K mg base 1 "need_count" 4 den_need_count []) (c_number_in : Callee G P w K mg base 1 "number_in" 2 den_number_in [.int 5]) (c_is_move_texts : Callee G P w K mg base 2 "is_move_texts" 2 den_is_move []) (m_1 : mg "BadText" = some (.ref (G 1))) (T1 : ∃ fI B n i bm, ExT P K (G 1) fI (xfN 1) B n i bm) {f : Addr} {fd : FuncData} (hm : mg "read_run" = some (.ref f)) (F : Fun K "read_run" "read_run" (top 50) f fd) : Callee G P w K mg base 5 "read_run" 2 den_read_run [] :=
  callee_of hm F sc_read_run (F.binds fun _ _ _ _ _ _ us hl => match us, hl with | [_, _], _ => rfl) fun cdv A outer s H E hr hgd tk => by
    have hN : (N_read_run).Nodup := sc_read_run.nd
    exact (pds_cons (pds_expr (pd_callC 1 c_need_rig (hr.mono (by decide)) hgd tk (pda_cons (pd_var 0) pda_nil)))
    (pds_cons (pds_set 2 hN (pd_callC 1 c_need_words (hr.mono (by decide)) hgd tk (pda_cons (pd_var 1) pda_nil)))
    (pds_cons (pds_par2 3 4 rfl hN (pdu_cons (pd_lst pda_nil) (pdu_cons (pd_ix od_ix (ix_all (r1 hr)) (pd_var 2) pd_int) pdu_nil)))
    (pds_cons (pds_if (pdt_cmp od_eq (op_eqE (r64 hr)) (pd_ix od_ix (ix_all (r1 hr)) (pd_var 4) pd_int) (pd_glob C.c_NONE rfl)) (pds_one (pds_expr (pd_callC 4 c_need_count (hr.mono (by decide)) hgd tk (pda_cons (pd_var 4) (pda_cons pd_int (pda_cons pd_int (pda_cons pd_int pda_nil))))))) (pds_one (pds_for (passes_of rfl) rfl (pdi_enum rfl B.b_enumerate (pd_var 4)) (pp_tup rfl (pps_cons 5 hN (pps_cons 6 hN pps_nil))) (pds_cons (pds_set 7 hN (pd_callC 1 c_number_in (hr.mono (by decide)) hgd tk (pda_cons (pd_var 6) pda_nil)))
    (pds_cons (pds_if (PDW.pdt (pdw_or (pdt_cmp od_is op_isD (pd_var 7) pd_non) (pdw_or1 (pdt_not (pdt_val (pd_callC 2 c_is_move_texts (hr.mono (by decide)) hgd tk (pda_cons (pd_var 0) (pda_cons (pd_var 7) pda_nil)))))))) (pds_one (pds_raiseE 1 T1 rfl tk hr m_1 (pd_tupD (pda_cons pd_int (pda_cons (pd_var 5) pda_nil))))) pds_nil)
    (pds_one (pds_expr (pd_append (pd_var 3) (pd_var 7)))))))))
    (pds_cons (pds_if (pdt_cmp od_gt op_gt (pd_len rfl B.b_len (pd_var 2)) pd_int) (pds_one (pds_raiseE 1 T1 rfl tk hr m_1 (pd_tupD (pda_cons pd_int (pda_cons pd_int pda_nil))))) pds_nil)
    (pds_one (pds_ret (pd_tupK rfl B.b_tuple (pd_var 3)))))))))
abbrev N__law_begun : List Str := ["_law_script", "_law_mixed", "_law_k", "_law_cell"]
theorem sc__law_begun : FnScope N__law_begun ["_law_script"] (defScope (top 52)) := ⟨rfl, rfl, rfl, by decide +kernel, rfl, by decide +kernel, by decide +kernel⟩
theorem ok__law_begun (B : Bl mg) (SC : ScrC G K) {f : Addr} {fd : FuncData} (hm : mg "_law_begun" = some (.ref f)) (F : Fun K "_law_begun" "_law_begun" (top 52) f fd) : Callee G P w K mg base 1 "_law_begun" 1 den__law_begun [] :=
  callee_raw hm F sc__law_begun (F.binds fun _ _ _ _ _ _ us hl => match us, hl with | [_], _ => rfl) fun cdv A outer s H vs Q E hr hgd h => by
    have hN : (N__law_begun).Nodup := sc__law_begun.nd
    refine ⟨_, pss_cons (ps_set (i := 1) hN rfl (.inl rfl) (pe_op op_add pe_int (pe_op op_mul pe_int (pe_callB call_len rfl B.b_len PySem.boot_len (pa_cons (pv 0) pa_nil)))))
      (pss_cons (ps_for (passes_of rfl) rfl (pi_enum rfl B.b_enumerate (pa_cons (pv 0) pa_nil)) (pg_tup rfl (pgs_cons (pg_name (i := 2) hN rfl (.inl rfl)) (pgs_cons (pg_name (i := 3) hN rfl (.inl rfl)) pgs_nil)))
        (pss_one (ps_set (i := 1) hN rfl (.inl rfl) (pe_op op_modN (pe_callTy call_int1 rfl B.b_int (by decide +kernel) (pa_cons (pe_op op_add (pe_op op_add (pe_op op_mul (pv 1) pe_int) (pv 3)) (pe_op op_mul pe_int (pv 2))) pa_nil)) pe_int))) (by intro _; rfl))
      (pss_one (ps_ret (pe_disp (pps_cons pe_str (pv 1) (pps_cons pe_str (pe_lc (own := [("_law_cell", 3)]) rfl hN (pi_list (pv 0)) (show BlkOk N__law_begun (defScope (top 52)) _ _ from ⟨rfl, by decide +kernel, by decide +kernel, by decide +kernel, by decide +kernel⟩) (fun _ _ _ _ _ => pg_name (i := 3) hN rfl (.inl rfl)) (fun _ _ _ _ _ => pts_one (pt_cmpR op_ge (pv 3) (pe_op op_pow pe_int pe_int) (nobehind _ (by decide) (by decide)))) (fun _ _ _ _ _ => pv 3) (by intro _; rfl)) (pps_cons pe_str pe_int pps_nil))) rfl rfl (by simp) (by decide))))), ?_⟩
    obtain ⟨ow, ds, g, Qd, Ed, hns, hlen, hgr, hrep, ⟨n, rfl, hn63, hd⟩, hQ, _⟩ := h
    obtain ⟨x, r, rfl, hx, hr2⟩ := (by rw [RepL] at hrep; exact hrep)
    rw [RepL] at hr2
    subst hr2
    obtain ⟨a, ns, rfl, hl, hsq⟩ := scr_seq SC hx
    have hn64 : ((32452843 : Int) + 41 * ((ns.map V.int).length : Nat)) < 2305843009213693951 → True := fun _ => trivial
    refine ⟨_, rfl, .ref a, _, rfl, .inl ⟨_, hsq H fun _ _ h => h, rfl⟩, _, _, rfl, rfl, .inl ⟨by decide, by decide⟩, _, _, rfl, rfl, ?_⟩
    refine ⟨_, rfl, a, _, rfl, hsq H fun _ _ h => h, ?_⟩
    refine for_it (n := (ns.map V.int).length) (walk_enum (xs := ns.map V.int)) (fun i σ H' => (∀ c o, H c = some o → H' c = some o) ∧ ∃ (m : Int) (x2 x3 : Option V), (0 < i → m < 2305843009213693951) ∧ (i = 0 → m = 32452843 + 41 * ((ns.map V.int).length : Nat)) ∧ 0 ≤ m ∧ σ = [some (.ref a), some (.int m), x2, x3]) ⟨fun _ _ h => h, _, none, none, fun h => absurd h (by omega), fun _ => rfl, by omega, rfl⟩ (fun i σ H' _ h => hsq H' h.1) (fun i x σ H1 H2 hi h y => ?_) fun σ H' h => ?_
    · obtain ⟨k, m, x2, x3, _, _, m0, rfl⟩ := h
      obtain ⟨T, y1, y2, rfl, hT, rfl, e1, e2⟩ := y
      cases e1
      have e2 : (ns.map V.int)[i]? = some y2 := e2
      rw [List.getElem?_map, Option.map_eq_some_iff] at e2
      obtain ⟨c, _, rfl⟩ := e2
      refine ⟨T, _, rfl, .inl (.inl upd_same), rfl, _, _, rfl, _, _, rfl, rfl, ?_⟩
      refine ⟨_, rfl, _, _, rfl, rfl, .inr ⟨by decide, by decide⟩, _, rfl, _, _, rfl, rfl, _, rfl, _, _, rfl, rfl, .inl ⟨by decide, by decide⟩, _, _, rfl, rfl, .inl ⟨_, rfl, _, _, rfl, rfl, (show (2305843009213693951 : Int) ≠ 0 by decide), ?_⟩⟩
      exact ⟨fun b o h => by rw [upd_ne (ne_of_none (k b o h) hT)]; exact k b o h, _, _, _, fun _ => Int.fmod_lt_of_pos _ (by decide), fun h => absurd h (by omega), Int.fmod_nonneg_of_pos _ (by decide), rfl⟩
    · obtain ⟨k, m, x2, x3, b1, b2, m0, rfl⟩ := h
      have m1 : m < 2305843009213693951 := by
        by_cases z : 0 < (ns.map V.int).length
        · exact b1 z
        · have e : (ns.map V.int).length = 0 := by omega
          rw [b2 e, e]
          decide
      refine fun p hp => ⟨_, rfl, _, rfl, a, rfl, ⟨_, hsq _ fun c o h => by rw [upd_ne (ne_of_none (k c o h) hp)]; exact k c o h⟩, fun q hq => ?_⟩
      have hpq : q ≠ p := fun z => by rw [z, upd_same] at hq; cases hq
      rw [upd_ne hpq] at hq
      have none_of : ∀ c, H' c = none → H c = none := fun c h => by
        cases z : H c with
        | none => rfl
        | some o => rw [k c o z] at h; cases h
      have hp0 := none_of p hp
      have hq0 := none_of q hq
      have k2 : ∀ {c o}, H c = some o → c ≠ p ∧ c ≠ q := fun h => ⟨ne_of_none h hp0, ne_of_none h hq0⟩
      refine lc_it (n := (ns.map V.int).length) (walk_list (xs := ns.map V.int)) (fun i H2 => (∀ c o, H c = some o → H2 c = some o) ∧ H2 p = some (.dK []) ∧ ∃ acc : List Int, H2 q = some (.lst (acc.map V.int)) ∧ (∀ x ∈ acc, 0 ≤ x) ∧ acc.length ≤ i)
        ⟨fun c o h => by rw [upd_ne (k2 h).2, upd_ne (k2 h).1]; exact k c o h, by rw [upd_ne hpq.symm]; exact upd_same, [], upd_same, by simp, by simp⟩ (fun i H2 _ h => hsq H2 h.1) (fun i x H2 H3 hi h y => ?_) fun H2 h => ?_
      · obtain ⟨kk, hpp, acc, hqq, a0, al⟩ := h
        obtain ⟨rfl, e⟩ := y
        rw [List.getElem?_map, Option.map_eq_some_iff] at e
        obtain ⟨c, _, rfl⟩ := e
        refine ⟨rfl, _, rfl, _, _, rfl, rfl, ⟨by decide, by decide, by decide⟩, _, _, rfl, rfl, _, rfl, ?_⟩
        dsimp only
        split
        · rename_i hc
          refine ⟨_, rfl, _, hqq, ?_, fun b o h => by rw [upd_ne (k2 h).2]; exact kk b o h, by rw [upd_ne hpq.symm]; exact hpp, acc ++ [c], by rw [upd_same, List.map_append]; rfl, fun x hx => ?_, by simp; omega⟩
          · rw [List.length_map]
            rw [List.length_map] at hi
            exact Nat.lt_of_le_of_lt (Nat.le_trans al (Nat.le_of_lt hi)) (Nat.lt_of_le_of_lt (by rw [hl]; exact hn63) (by decide +kernel))
          · rcases List.mem_append.mp hx with z | z
            · exact a0 x z
            · rw [List.mem_singleton.mp z]
              have := of_decide_eq_true hc
              have h18 : (0 : Int) ≤ 10 ^ (18 : Int).toNat := by decide
              omega
        · exact ⟨kk, hpp, acc, hqq, a0, by omega⟩
      · obtain ⟨kk, hpp, acc, hqq, a0, al⟩ := h
        refine ⟨hpp, drK m q 0, rfl, (by show 3 ≤ 15; decide), ?_⟩
        obtain ⟨ow', e', g', R⟩ := draw_made (H' := upd H2 p (.dK (drK m q 0))) (m := m) hgr hp0 hq0 hpq (fun c o h => by rw [upd_ne (k2 h).1]; exact kk c o h) upd_same (by rw [upd_ne hpq]; exact hqq) m0 m1 a0
        exact hQ _ _ hd _ _ _ e' g' (by rw [RepR]; exact R)
abbrev N__law_next : List Str := ["_law_draw", "_law_below", "_law_great", "_law_at", "_law_found", "_law_mixed"]
theorem sc__law_next : FnScope N__law_next ["_law_draw", "_law_below"] (defScope (top 53)) := ⟨rfl, rfl, rfl, by decide +kernel, rfl, by decide +kernel, by decide +kernel⟩
theorem ok__law_next (B : Bl mg) {f : Addr} {fd : FuncData} (hm : mg "_law_next" = some (.ref f)) (F : Fun K "_law_next" "_law_next" (top 53) f fd) : Callee G P w K mg base 1 "_law_next" 2 den__law_next [] :=
  callee_raw hm F sc__law_next (F.binds fun _ _ _ _ _ _ us hl => match us, hl with | [_, _], _ => rfl) fun cdv A outer s H vs Q E hr hgd h => by
    have hN : (N__law_next).Nodup := sc__law_next.nd
    refine ⟨_, pss_cons (ps_asg (pe_tup (pa_cons (pe_op op_add (pe_ix (ix_dic (r1 hr)) (pv 0) pe_str (fun _ _ => rfl)) pe_int) (pa_cons (pe_ix (ix_dic (r1 hr)) (pv 0) pe_str (fun _ _ => rfl)) pa_nil))) (pg_tup rfl (pgs_cons (pg_sub (pv 0) pe_str (set_dict (r1 hr))) (pgs_cons (pg_name (i := 2) hN rfl (.inl rfl)) pgs_nil))))
      (pss_cons (ps_set (i := 3) hN rfl (.inl rfl) (pe_op op_modN (pe_callTy call_int1 rfl B.b_int (by decide +kernel) (pa_cons (pe_ix (ix_dic (r1 hr)) (pv 0) pe_str (fun _ _ => rfl)) pa_nil)) (pe_callB (call_max2 rfl) rfl B.b_max (by decide +kernel) (pa_cons pe_int (pa_cons (pe_callB call_len rfl B.b_len PySem.boot_len (pa_cons (pv 2) pa_nil)) pa_nil)))))
      (pss_cons (ps_if (PW.pt (pw_and (pt_cmpR (op_neD (r64 hr)) (pv 2) (pe_lst pa_nil) (nobehind _ (by decide) (by decide))) (pw_and1 (pt_cmpR op_gt (pe_ix ix_list (pv 2) (pv 3) (fun _ _ => rfl)) pe_int (nobehind _ (by decide) (by decide))))))
          (pss_cons (ps_set (i := 4) hN rfl (.inl rfl) (pe_op op_modN (pe_callTy call_int1 rfl B.b_int (by decide +kernel) (pa_cons (pe_ix ix_list (pv 2) (pv 3) (fun _ _ => rfl)) pa_nil)) (pv 1)))
          (pss_cons (ps_asg (pe_op op_fdivN (pe_ix ix_list (pv 2) (pv 3) (fun _ _ => rfl)) (pv 1)) (pg_sub (pv 2) (pv 3) set_list))
          (pss_one (ps_ret (pv 4))))) pss_nil)
      (pss_cons (ps_set (i := 5) hN rfl (.inl rfl) (pe_callTy call_int1 rfl B.b_int (by decide +kernel) (pa_cons (pe_op op_add (pe_op op_add (pe_op op_mul (pe_ix (ix_dic (r1 hr)) (pv 0) pe_str (fun _ _ => rfl)) pe_int) (pe_op op_mul pe_int (pe_ix (ix_dic (r1 hr)) (pv 0) pe_str (fun _ _ => rfl)))) pe_int) pa_nil)))
      (pss_cons (ps_asg (pe_op op_modN (pe_callTy call_int1 rfl B.b_int (by decide +kernel) (pa_cons (pv 5) pa_nil)) pe_int) (pg_sub (pv 0) pe_str (set_dict (r1 hr))))
      (pss_one (ps_ret (pe_op op_modN (pe_callTy call_int1 rfl B.b_int (by decide +kernel) (pa_cons (pe_op op_fdivN (pe_ix (ix_dic (r1 hr)) (pv 0) pe_str (fun _ _ => rfl)) pe_int) pa_nil)) (pv 1)))))))), ?_⟩
    obtain ⟨ow, ds, g, Qd, Ed, hns, hlen, hgr, hrep, ⟨n, rfl, n0, n1, hd⟩, hQ, _⟩ := h
    obtain ⟨a, b, m, t, gs, rfl, S⟩ := drs_of hgr hrep
    have fin : ∀ {m' t' : Int} {gs' : List Int} {ow' : OW} {H' : Hp} {i : Int}, DrS G ow H g a b m' t' gs' ow' H' → Q (.int (i.fmod n)) H' := fun S' => hQ _ _ (hd _ (Int.fmod_nonneg_of_pos _ n0) (Int.fmod_lt_of_pos _ n0)) _ _ _ S'.e S'.gr (by rw [RepR, Rep])
    -- the turn
    refine ⟨_, rfl, a, .int t, rfl, S.getT, t, 1, rfl, rfl, _, rfl, a, .ref b, rfl, S.getG, Nat.le_trans (by show 2 ≤ 4; decide) four_le_line, fun p hp => ?_⟩
    have S1 := S.new hp (o := .tup [V.int (t + 1), V.ref b])
    refine ⟨p, _, rfl, .inl (.inl upd_same), rfl, _, _, rfl, ⟨_, rfl, ⟨a, _, rfl, S1.setT, ⟨_, _, rfl, ⟨rfl, ?_⟩⟩⟩⟩⟩
    have S2 := S1.put (t' := t + 1) S.m0 S.m1 (by have := S.t0; omega)
    revert S2
    generalize ow1 ow p (some .far) = ow2
    generalize upd (upd H p _) a _ = H2
    intro S2
    -- the place
    refine ⟨_, rfl, a, _, rfl, S2.getT, .inl ⟨_, rfl, _, rfl, .ref b, (gs.map V.int).length, rfl, .inl ⟨_, S2.sq, rfl⟩, _, _, rfl, _, _, rfl, rfl, ?_, ?_⟩⟩
    · split <;> omega
    have at0 : 0 ≤ (t + 1).fmod (if ((gs.map V.int).length : Int) > 1 then ((gs.map V.int).length : Int) else 1) := Int.fmod_nonneg_of_pos _ (by split <;> omega)
    have at1 : gs ≠ [] → (t + 1).fmod (if ((gs.map V.int).length : Int) > 1 then ((gs.map V.int).length : Int) else 1) < gs.length := fun h => by
      have := List.length_pos_iff.mpr h
      refine Int.lt_of_lt_of_le (Int.fmod_lt_of_pos _ (by split <;> omega)) ?_
      rw [List.length_map]
      split <;> omega
    revert at0 at1
    dsimp only
    generalize (t + 1).fmod _ = at_
    intro at0 at1
    refine ⟨_, rfl, Nat.zero_le _, fun p2 hp2 => ?_⟩
    have S3 := S2.new hp2 (o := .lst [])
    revert S3
    generalize ow1 ow2 p2 (some .far) = ow3
    have hE : Dp K (upd H2 p2 (.lst [])) (.ref p2) (intsP []) := dp_ints (gs := []) upd_same
    revert hE
    generalize upd H2 p2 _ = H3
    intro hE S3
    refine ⟨_, _, dp_ints S3.hb, hE, shaped_ints, shaped_ints, _, rfl, ?_⟩
    rw [eqv_ints0]
    by_cases hg : gs = []
    · subst hg
      show if false = true then _ else _
      rw [if_neg (by decide)]
      show if false = true then _ else _
      rw [if_neg (by decide)]
      refine ⟨_, rfl, a, _, rfl, S3.getM, _, _, rfl, rfl, .inr ⟨by decide, by decide⟩, _, rfl, a, _, rfl, S3.getT, _, _, rfl, rfl, .inl ⟨by decide, by decide⟩, _, _, rfl, rfl, _, _, rfl, rfl, .inl ⟨_, rfl, ?_⟩⟩
      refine ⟨_, rfl, .inl ⟨_, rfl, _, _, rfl, rfl, (show (2305843009213693951 : Int) ≠ 0 by decide), ?_⟩⟩
      refine ⟨_, rfl, a, _, rfl, S3.setM, ?_⟩
      have S4 := S3.put (m' := Int.fmod (m * 6364136223846793 + 1442695040888963 * (t + 1) + 11) 2305843009213693951) (Int.fmod_nonneg_of_pos _ (by decide)) (Int.fmod_lt_of_pos _ (by decide)) S3.t0
      exact ⟨_, rfl, a, _, rfl, S4.getM, _, _, rfl, rfl, ⟨by decide, by decide⟩, .inl ⟨_, rfl, _, rfl, _, _, rfl, rfl, by omega, fin S4⟩⟩
    · have he : (!gs.isEmpty) = true := by cases gs <;> first | rfl | exact absurd rfl hg
      rw [he]
      show if true = true then _ else _
      rw [if_pos rfl]
      have hat := at1 hg
      have hv := atI_int at0 hat
      refine ⟨_, rfl, _, rfl, b, _, _, _, rfl, rfl, S3.sq, hv, _, _, rfl, rfl, _, rfl, ?_⟩
      by_cases hq : (0 : Int) < gs[at_.toNat]'(by omega)
      · rw [decide_eq_true hq]
        show if true = true then _ else _
        rw [if_pos rfl]
        refine ⟨_, rfl, _, rfl, b, _, _, _, rfl, rfl, S3.sq, hv, .inl ⟨_, rfl, _, rfl, _, _, rfl, rfl, by omega, ?_⟩⟩
        refine ⟨_, rfl, _, rfl, b, _, _, _, rfl, rfl, S3.sq, hv, _, rfl, _, _, rfl, rfl, ⟨by omega, by omega⟩, ?_⟩
        refine ⟨_, rfl, _, rfl, b, _, _, _, rfl, rfl, S3.hb, ixN_int at0 (by rw [List.length_map]; exact hat), ?_⟩
        rw [set_ints]
        refine ⟨_, rfl, fin (S3.putL (nonneg_set S3.g0 ?_))⟩
        rw [Int.fdiv_eq_ediv_of_nonneg _ (by omega)]
        exact Int.ediv_nonneg (by omega) (by omega)
      · rw [decide_eq_false hq]
        show if false = true then _ else _
        rw [if_neg (by decide)]
        refine ⟨_, rfl, a, _, rfl, S3.getM, _, _, rfl, rfl, .inr ⟨by decide, by decide⟩, _, rfl, a, _, rfl, S3.getT, _, _, rfl, rfl, .inl ⟨by decide, by decide⟩, _, _, rfl, rfl, _, _, rfl, rfl, .inl ⟨_, rfl, ?_⟩⟩
        refine ⟨_, rfl, .inl ⟨_, rfl, _, _, rfl, rfl, (show (2305843009213693951 : Int) ≠ 0 by decide), ?_⟩⟩
        refine ⟨_, rfl, a, _, rfl, S3.setM, ?_⟩
        have S4 := S3.put (m' := Int.fmod (m * 6364136223846793 + 1442695040888963 * (t + 1) + 11) 2305843009213693951) (Int.fmod_nonneg_of_pos _ (by decide)) (Int.fmod_lt_of_pos _ (by decide)) S3.t0
        exact ⟨_, rfl, a, _, rfl, S4.getM, _, _, rfl, rfl, ⟨by decide, by decide⟩, .inl ⟨_, rfl, _, rfl, _, _, rfl, rfl, by omega, fin S4⟩⟩
def body__law_among : DS :=
  (dRet (dOp gIx (dVar 1) (dCall den__law_next 2 [] (dCons (dVar 0) (dCons (dUn gLen (dVar 1)) dNil)))))
def den__law_among : Den := dFn 2 body__law_among
abbrev N__law_among : List Str := ["_law_draw", "_law_some"]
theorem sc__law_among : FnScope N__law_among ["_law_draw", "_law_some"] (defScope (top 54)) := ⟨rfl, rfl, rfl, by decide +kernel, rfl, by decide +kernel, by decide +kernel⟩
theorem ok__law_among (B : Bl mg) (C : Cs G mg) (SC : ScrC G K) (X : ExF [0, 1, 3, 6, 8] [0, 1, 3, 6] G P K mg) (SM : SmAt base) (c__law_next : Callee G P w K mg base 1 "_law_next" 2 den__law_next []) {f : Addr} {fd : FuncData} (hm : mg "_law_among" = some (.ref f)) (F : Fun K "_law_among" "_law_among" (top 54) f fd) : Callee G P w K mg base 2 "_law_among" 2 den__law_among [] :=
  callee_of hm F sc__law_among (F.binds fun _ _ _ _ _ _ us hl => match us, hl with | [_, _], _ => rfl) fun cdv A outer s H E hr hgd tk => by
    have hN : (N__law_among).Nodup := sc__law_among.nd
    exact (pds_one (pds_ret (pd_ix od_ix (ix_all (r1 hr)) (pd_var 1) (pd_callC 2 c__law_next (hr.mono (by decide)) hgd tk (pda_cons (pd_var 0) (pda_cons (pd_len rfl B.b_len (pd_var 1)) pda_nil))))))
def body__law_loads : DS :=
  (dSeq (dSet 1 (dLst (dCons (dC (.int 0)) dNil)))
    (dSeq (dFor (dRng1 (dOp gAdd (dC (.int 1)) (dCall den__law_next 2 [] (dCons (dVar 0) (dCons (dC (.int 4)) dNil))))) (.nm 2) (dSeq (dSet 3 (dOp gIx (dLst (dCons (dC (.int 0)) (dCons (dC (.int 1)) (dCons (dC (.int 1)) (dCons (dC (.int 2)) (dCons (dC (.int 3)) dNil)))))) (dCall den__law_next 2 [] (dCons (dVar 0) (dCons (dC (.int 5)) dNil)))))
    (dDrop (dAppend (dVar 1) (dIf (dAnd (dB (dOp gEq (dVar 3) (dC (.int 0)))) (dB (dOp gEq (dCnt (dVar 1) (dC (.int 0))) (dC (.int 3))))) (dC (.int 1)) (dVar 3))))))
    (dRet (dUn gTupK (dVar 1)))))
def den__law_loads : Den := dFn 4 body__law_loads
abbrev N__law_loads : List Str := ["_law_draw", "_law_found", "_law_k", "_law_one"]
theorem sc__law_loads : FnScope N__law_loads ["_law_draw"] (defScope (top 55)) := ⟨rfl, rfl, rfl, by decide +kernel, rfl, by decide +kernel, by decide +kernel⟩
theorem ok__law_loads (B : Bl mg) (C : Cs G mg) (SC : ScrC G K) (X : ExF [0, 1, 3, 6, 8] [0, 1, 3, 6] G P K mg) (SM : SmAt base) (c__law_next : Callee G P w K mg base 1 "_law_next" 2 den__law_next []) {f : Addr} {fd : FuncData} (hm : mg "_law_loads" = some (.ref f)) (F : Fun K "_law_loads" "_law_loads" (top 55) f fd) : Callee G P w K mg base 2 "_law_loads" 1 den__law_loads [] :=
  callee_of hm F sc__law_loads (F.binds fun _ _ _ _ _ _ us hl => match us, hl with | [_], _ => rfl) fun cdv A outer s H E hr hgd tk => by
    have hN : (N__law_loads).Nodup := sc__law_loads.nd
    exact (pds_cons (pds_set 1 hN (pd_lst (pda_cons pd_int pda_nil)))
    (pds_cons (pds_for (passes_of rfl) rfl (pdi_rng1 rfl B.b_range (pd_op od_add op_addD pd_int (pd_callC 2 c__law_next (hr.mono (by decide)) hgd tk (pda_cons (pd_var 0) (pda_cons pd_int pda_nil))))) (pp_name 2 hN) (pds_cons (pds_set 3 hN (pd_ix od_ix (ix_all (r1 hr)) (pd_lst (pda_cons pd_int (pda_cons pd_int (pda_cons pd_int (pda_cons pd_int (pda_cons pd_int pda_nil)))))) (pd_callC 2 c__law_next (hr.mono (by decide)) hgd tk (pda_cons (pd_var 0) (pda_cons pd_int pda_nil)))))
    (pds_one (pds_expr (pd_append (pd_var 1) (pd_if (PDW.pdt (pdw_and (pdt_cmp od_eq (op_eqE (r64 hr)) (pd_var 3) pd_int) (pdw_and1 (pdt_cmp od_eq (op_eqE (r64 hr)) (pd_cnt (pd_var 1) pd_int) pd_int)))) pd_int (pd_var 3)))))))
    (pds_one (pds_ret (pd_tupK rfl B.b_tuple (pd_var 1))))))
def body__law_move : DS :=
  (dSeq (dSet 2 (dCall den__law_next 2 [] (dCons (dVar 0) (dCons (dVar 1) dNil))))
    (dSeq (dSet 3 (dOp gMod (dUn gInt (dOp gAdd (dOp gAdd (dVar 2) (dC (.int 1))) (dCall den__law_next 2 [] (dCons (dVar 0) (dCons (dOp gSub (dVar 1) (dC (.int 1))) dNil))))) (dVar 1)))
    (dSeq (dSet 4 (dOp gIx (dLst (dCons (dC (.int 0)) (dCons (dC (.int 0)) (dCons (dC (.int 10)) (dCons (dC (.int 20)) (dCons (dC (.int 30)) (dCons (dC (.int 40)) (dCons (dC (.int 50)) (dCons (dC (.int 25)) (dCons (dC (.int 61)) (dCons (dCall den__law_next 2 [] (dCons (dVar 0) (dCons (dC (.int 1001)) dNil))) dNil))))))))))) (dCall den__law_next 2 [] (dCons (dVar 0) (dCons (dC (.int 10)) dNil)))))
    (dSeq (dSet 5 (dOp gIx (dLst (dCons (dC .non) (dCons (dC .non) (dCons (dC .non) (dCons (dC (.int 60)) (dCons (dC (.int 50)) (dCons (dC (.int 40)) (dCons (dC (.int 20)) (dCons (dVar 4) (dCons (dC (.int 1000)) dNil)))))))))) (dCall den__law_next 2 [] (dCons (dVar 0) (dCons (dC (.int 9)) dNil)))))
    (dRet (dTupK (dCons (dVar 2) (dCons (dVar 4) (dCons (dIf (dB (dOp gIsN (dVar 5) (dC .non))) (dVar 5) (dOp gMax (dVar 4) (dVar 5))) (dCons (dVar 3) dNil))))))))))
def den__law_move : Den := dFn 6 body__law_move
abbrev N__law_move : List Str := ["_law_draw", "_law_many", "_law_begin", "_law_end", "_law_least", "_law_most"]
theorem sc__law_move : FnScope N__law_move ["_law_draw", "_law_many"] (defScope (top 56)) := ⟨rfl, rfl, rfl, by decide +kernel, rfl, by decide +kernel, by decide +kernel⟩
theorem ok__law_move (B : Bl mg) (C : Cs G mg) (SC : ScrC G K) (X : ExF [0, 1, 3, 6, 8] [0, 1, 3, 6] G P K mg) (SM : SmAt base) (c__law_next : Callee G P w K mg base 1 "_law_next" 2 den__law_next []) {f : Addr} {fd : FuncData} (hm : mg "_law_move" = some (.ref f)) (F : Fun K "_law_move" "_law_move" (top 56) f fd) : Callee G P w K mg base 2 "_law_move" 2 den__law_move [] :=
  callee_of hm F sc__law_move (F.binds fun _ _ _ _ _ _ us hl => match us, hl with | [_, _], _ => rfl) fun cdv A outer s H E hr hgd tk => by
    have hN : (N__law_move).Nodup := sc__law_move.nd
    exact (pds_cons (pds_set 2 hN (pd_callC 2 c__law_next (hr.mono (by decide)) hgd tk (pda_cons (pd_var 0) (pda_cons (pd_var 1) pda_nil))))
    (pds_cons (pds_set 3 hN (pd_op od_mod op_modN (pd_int1 rfl B.b_int (pd_op od_add op_addD (pd_op od_add op_addD (pd_var 2) pd_int) (pd_callC 2 c__law_next (hr.mono (by decide)) hgd tk (pda_cons (pd_var 0) (pda_cons (pd_op od_sub op_sub (pd_var 1) pd_int) pda_nil))))) (pd_var 1)))
    (pds_cons (pds_set 4 hN (pd_ix od_ix (ix_all (r1 hr)) (pd_lst (pda_cons pd_int (pda_cons pd_int (pda_cons pd_int (pda_cons pd_int (pda_cons pd_int (pda_cons pd_int (pda_cons pd_int (pda_cons pd_int (pda_cons pd_int (pda_cons (pd_callC 2 c__law_next (hr.mono (by decide)) hgd tk (pda_cons (pd_var 0) (pda_cons pd_int pda_nil))) pda_nil))))))))))) (pd_callC 2 c__law_next (hr.mono (by decide)) hgd tk (pda_cons (pd_var 0) (pda_cons pd_int pda_nil)))))
    (pds_cons (pds_set 5 hN (pd_ix od_ix (ix_all (r1 hr)) (pd_lst (pda_cons pd_non (pda_cons pd_non (pda_cons pd_non (pda_cons pd_int (pda_cons pd_int (pda_cons pd_int (pda_cons pd_int (pda_cons (pd_var 4) (pda_cons pd_int pda_nil)))))))))) (pd_callC 2 c__law_next (hr.mono (by decide)) hgd tk (pda_cons (pd_var 0) (pda_cons pd_int pda_nil)))))
    (pds_one (pds_ret (pd_tupD (pda_cons (pd_var 2) (pda_cons (pd_var 4) (pda_cons (pd_if (pdt_cmp od_is op_isD (pd_var 5) pd_non) (pd_var 5) (pd_max2 rfl rfl B.b_max (pd_var 4) (pd_var 5))) (pda_cons (pd_var 3) pda_nil)))))))))))
def body__law_rig : DS :=
  (dSeq (dSet 1 (dCall den__law_loads 1 [] (dCons (dVar 0) dNil)))
    (dSeq (dSet 2 (dUn gTupK (dLc (dRng1 (dOp gAdd (dC (.int 1)) (dCall den__law_next 2 [] (dCons (dVar 0) (dCons (dC (.int 7)) dNil))))) (.nm 5) dYes (dCall den__law_move 2 [] (dCons (dVar 0) (dCons (dUn gLen (dVar 1)) dNil))) [5])))
    (dSeq (dSet 3 (dOp gIx (dLst (dCons (dC (.int 60)) (dCons (dC (.int 60)) (dCons (dC (.int 50)) (dCons (dOp gAdd (dC (.int 1)) (dCall den__law_next 2 [] (dCons (dVar 0) (dCons (dC (.int 1000)) dNil)))) dNil))))) (dCall den__law_next 2 [] (dCons (dVar 0) (dCons (dC (.int 4)) dNil)))))
    (dSeq (dSet 4 (dOp gIx (dLst (dCons (dC (.int 2)) (dCons (dC (.int 3)) (dCons (dC (.int 1)) (dCons (dC (.int 4)) (dCons (dC (.int 6)) (dCons (dC (.int 5)) dNil))))))) (dCall den__law_next 2 [] (dCons (dVar 0) (dCons (dC (.int 6)) dNil)))))
    (dSeq (dSet 4 (dIf (dB (dOp gGt (dUn gLen (dVar 1)) (dC (.int 4)))) (dOp gMin (dVar 4) (dOp gSub (dC (.int 4)) (dUn gInt (dOp gGt (dCnt (dVar 1) (dC (.int 0))) (dC (.int 2)))))) (dVar 4)))
    (dRet (dTupK (dCons (dVar 1) (dCons (dVar 2) (dCons (dVar 3) (dCons (dVar 4) (dCons (dOp gIx (dLst (dCons (dTupK (dCons (dC (.int 10)) (dCons (dC (.int 1)) dNil))) (dCons (dTupK (dCons (dC (.int 10)) (dCons (dC (.int 1)) dNil))) (dCons (dTupK (dCons (dC (.int 20)) (dCons (dC (.int 1)) dNil))) (dCons (dTupK (dCons (dC (.int 15)) (dCons (dC (.int 2)) dNil))) (dCons (dTupK (dCons (dC (.int 5)) (dCons (dC (.int 1)) dNil))) (dCons (dTupK (dCons (dC (.int 1)) (dCons (dC (.int 3)) dNil))) dNil))))))) (dCall den__law_next 2 [] (dCons (dVar 0) (dCons (dC (.int 6)) dNil)))) dNil))))))))))))
def den__law_rig : Den := dFn 6 body__law_rig
abbrev N__law_rig : List Str := ["_law_draw", "_law_loads_here", "_law_some", "_law_full", "_law_most", "_law_k"]
theorem sc__law_rig : FnScope N__law_rig ["_law_draw"] (defScope (top 57)) := ⟨rfl, rfl, rfl, by decide +kernel, rfl, by decide +kernel, by decide +kernel⟩
theorem ok__law_rig (B : Bl mg) (C : Cs G mg) (SC : ScrC G K) (X : ExF [0, 1, 3, 6, 8] [0, 1, 3, 6] G P K mg) (SM : SmAt base) (c__law_loads : Callee G P w K mg base 2 "_law_loads" 1 den__law_loads []) (c__law_next : Callee G P w K mg base 1 "_law_next" 2 den__law_next []) (c__law_move : Callee G P w K mg base 2 "_law_move" 2 den__law_move []) {f : Addr} {fd : FuncData} (hm : mg "_law_rig" = some (.ref f)) (F : Fun K "_law_rig" "_law_rig" (top 57) f fd) : Callee G P w K mg base 3 "_law_rig" 1 den__law_rig [] :=
  callee_of hm F sc__law_rig (F.binds fun _ _ _ _ _ _ us hl => match us, hl with | [_], _ => rfl) fun cdv A outer s H E hr hgd tk => by
    have hN : (N__law_rig).Nodup := sc__law_rig.nd
    exact (pds_cons (pds_set 1 hN (pd_callC 1 c__law_loads (hr.mono (by decide)) hgd tk (pda_cons (pd_var 0) pda_nil)))
    (pds_cons (pds_set 2 hN (pd_tupK rfl B.b_tuple (pd_lc [("_law_k", 5)] rfl hN (pdi_rng1 rfl B.b_range (pd_op od_add op_addD pd_int (pd_callC 2 c__law_next (hr.mono (by decide)) hgd tk (pda_cons (pd_var 0) (pda_cons pd_int pda_nil))))) (show BlkOk N__law_rig (defScope (top 57)) _ _ from ⟨rfl, by decide +kernel, by decide +kernel, by decide +kernel, by decide +kernel⟩) (fun _ _ _ _ _ => (pp_name 5 hN)) (fun _ _ _ _ _ => pdts_nil) (fun _ _ _ _ _ => (pd_callC 2 c__law_move (hr.mono (by decide)) hgd takes0 (pda_cons (pd_var 0) (pda_cons (pd_len rfl B.b_len (pd_var 1)) pda_nil)))))))
    (pds_cons (pds_set 3 hN (pd_ix od_ix (ix_all (r1 hr)) (pd_lst (pda_cons pd_int (pda_cons pd_int (pda_cons pd_int (pda_cons (pd_op od_add op_addD pd_int (pd_callC 2 c__law_next (hr.mono (by decide)) hgd tk (pda_cons (pd_var 0) (pda_cons pd_int pda_nil)))) pda_nil))))) (pd_callC 2 c__law_next (hr.mono (by decide)) hgd tk (pda_cons (pd_var 0) (pda_cons pd_int pda_nil)))))
    (pds_cons (pds_set 4 hN (pd_ix od_ix (ix_all (r1 hr)) (pd_lst (pda_cons pd_int (pda_cons pd_int (pda_cons pd_int (pda_cons pd_int (pda_cons pd_int (pda_cons pd_int pda_nil))))))) (pd_callC 2 c__law_next (hr.mono (by decide)) hgd tk (pda_cons (pd_var 0) (pda_cons pd_int pda_nil)))))
    (pds_cons (pds_set 4 hN (pd_if (pdt_cmp od_gt op_gt (pd_len rfl B.b_len (pd_var 1)) pd_int) (pd_min2 rfl rfl B.b_min (pd_var 4) (pd_op od_sub op_sub pd_int (pd_int1 rfl B.b_int (pd_cmp od_gt op_gt (pd_cnt (pd_var 1) pd_int) pd_int)))) (pd_var 4)))
    (pds_one (pds_ret (pd_tupD (pda_cons (pd_var 1) (pda_cons (pd_var 2) (pda_cons (pd_var 3) (pda_cons (pd_var 4) (pda_cons (pd_ix od_ix (ix_all (r1 hr)) (pd_lst (pda_cons (pd_tupD (pda_cons pd_int (pda_cons pd_int pda_nil))) (pda_cons (pd_tupD (pda_cons pd_int (pda_cons pd_int pda_nil))) (pda_cons (pd_tupD (pda_cons pd_int (pda_cons pd_int pda_nil))) (pda_cons (pd_tupD (pda_cons pd_int (pda_cons pd_int pda_nil))) (pda_cons (pd_tupD (pda_cons pd_int (pda_cons pd_int pda_nil))) (pda_cons (pd_tupD (pda_cons pd_int (pda_cons pd_int pda_nil))) pda_nil))))))) (pd_callC 2 c__law_next (hr.mono (by decide)) hgd tk (pda_cons (pd_var 0) (pda_cons pd_int pda_nil)))) pda_nil)))))))))))))
def body__law_said (J : Clo) (L : Den) : DS :=
  (dSeq (dPar [1, 2] [(dC .non), (dC .non)])
    (dSeq (dTry 3 (isX2 [0, 1, 3, 6, 8] 8 6) (dSet 2 (dCallL J L 0)) (dSet 1 (dVar 3)))
    (dSeq (dIfS (dB (dOp gIsN (dVar 1) (dC .non))) (dRet (dLst (dCons (dVar 2) dNil))) dNext)
    (dSeq (dSet 4 (dLst dNil))
    (dSeq (dIfS (dB (dIsT (gIsC (isX [0, 1, 3, 6, 8] 0)) (dVar 1))) (dDrop (dAppend (dVar 4) (dTupK (dCons (dC (.str "rig")) (dCons (dXf [0, 1, 3, 6] "place" (dVar 1)) dNil))))) dNext)
    (dSeq (dIfS (dB (dIsT (gIsC (isX [0, 1, 3, 6, 8] 1)) (dVar 1))) (dDrop (dAppend (dVar 4) (dTupK (dCons (dC (.str "text")) (dCons (dXf [0, 1, 3, 6] "place" (dVar 1)) dNil))))) dNext)
    (dSeq (dIfS (dB (dIsT (gIsC (isX [0, 1, 3, 6, 8] 3)) (dVar 1))) (dDrop (dAppend (dVar 4) (dTupK (dCons (dC (.str "run")) (dCons (dXf [0, 1, 3, 6] "at" (dVar 1)) dNil))))) dNext)
    (dRet (dIf (dB (dOp gEq (dUn gLen (dVar 4)) (dC (.int 1)))) (dOp gIx (dVar 4) (dC (.int 0))) (dTupK (dCons (dC (.str "odd")) (dCons (dUn gLen (dVar 4)) dNil))))))))))))
def den__law_said (J : Clo) (L : Den) : Den := dFn 5 (body__law_said J L)
abbrev N__law_said : List Str := ["_law_call", "_law_caught", "_law_found", "e", "_law_some"]
theorem sc__law_said : FnScope N__law_said ["_law_call"] (defScope (top 58)) := ⟨rfl, rfl, rfl, by decide +kernel, rfl, by decide +kernel, by decide +kernel⟩
theorem okL__law_said (B : Bl mg) (C : Cs G mg) (SC : ScrC G K) (X : ExF [0, 1, 3, 6, 8] [0, 1, 3, 6] G P K mg) (SM : SmAt base)  (m_0 : mg "BadRig" = some (.ref (G 0))) (m_1 : mg "BadText" = some (.ref (G 1))) (m_3 : mg "BadRun" = some (.ref (G 3))) (m_6 : mg "Missing" = some (.ref (G 6))) (m_8 : mg "RigError" = some (.ref (G 8))) (CT6 : CatT [0, 1, 3, 6, 8] G K 6) {f : Addr} {fd : FuncData} (hm : mg "_law_said" = some (.ref f)) (F : Fun K "_law_said" "_law_said" (top 58) f fd) : CalleeL G P w K mg base 26 25 "_law_said" den__law_said :=
  calleeL_of hm F sc__law_said (F.binds fun _ _ _ _ _ _ us hl => match us, hl with | [_], _ => rfl) fun J L cdv A outer s H E hr hgd tk act => by
    have hN : (N__law_said).Nodup := sc__law_said.nd
    exact (pds_cons (pds_parN (pp_tup rfl (pps_cons 1 hN (pps_cons 2 hN pps_nil))) (pdu_cons pd_non (pdu_cons pd_non pdu_nil)))
    (pds_cons (pds_tryX2 3 8 6 rfl rfl rfl hN m_8 m_6 X.ct CT6 tk (fun W' pn xe tk' ps' => (pds_one (pds_set 2 hN (act _ _ _ _ _ _ pn xe W' _ 0 _ _ (hr.mono (by decide)) hgd tk' rfl (by first | exact Or.inl rfl | exact Or.inr (Or.inl rfl)) (by decide) (by decide))))) (fun a pn => (pds_one (pds_set 1 hN (pd_var 3)))))
    (pds_cons (pds_if (pdt_cmp od_is op_isD (pd_var 1) pd_non) (pds_one (pds_ret (pd_lst (pda_cons (pd_var 2) pda_nil)))) pds_nil)
    (pds_cons (pds_set 4 hN (pd_lst pda_nil))
    (pds_cons (pds_if (pdt_val (pd_isXc 0 (X.xc 0 (by decide)) m_0 rfl B.b_isinstance rfl (pd_var 1))) (pds_one (pds_expr (pd_append (pd_var 4) (pd_tupD (pda_cons pd_str (pda_cons (pd_xf X.xs (pd_var 1)) pda_nil)))))) pds_nil)
    (pds_cons (pds_if (pdt_val (pd_isXc 1 (X.xc 1 (by decide)) m_1 rfl B.b_isinstance rfl (pd_var 1))) (pds_one (pds_expr (pd_append (pd_var 4) (pd_tupD (pda_cons pd_str (pda_cons (pd_xf X.xs (pd_var 1)) pda_nil)))))) pds_nil)
    (pds_cons (pds_if (pdt_val (pd_isXc 3 (X.xc 3 (by decide)) m_3 rfl B.b_isinstance rfl (pd_var 1))) (pds_one (pds_expr (pd_append (pd_var 4) (pd_tupD (pda_cons pd_str (pda_cons (pd_xf X.xs (pd_var 1)) pda_nil)))))) pds_nil)
    (pds_one (pds_ret (pd_if (pdt_cmp od_eq (op_eqE (r64 hr)) (pd_len rfl B.b_len (pd_var 4)) pd_int) (pd_ix od_ix (ix_all (r1 hr)) (pd_var 4) pd_int) (pd_tupD (pda_cons pd_str (pda_cons (pd_len rfl B.b_len (pd_var 4)) pda_nil)))))))))))))
def body__law_number : DS :=
  (dRet (dOp gIn (dVar 0) (dLc (dRng1 (dVar 1)) (.nm 2) dYes (dUn gStr (dVar 2)) [2])))
def den__law_number : Den := dFn 3 body__law_number
abbrev N__law_number : List Str := ["_law_word", "_law_total", "_law_k"]
theorem sc__law_number : FnScope N__law_number ["_law_word", "_law_total"] (defScope (top 59)) := ⟨rfl, rfl, rfl, by decide +kernel, rfl, by decide +kernel, by decide +kernel⟩
theorem ok__law_number (B : Bl mg) (C : Cs G mg) (SC : ScrC G K) (X : ExF [0, 1, 3, 6, 8] [0, 1, 3, 6] G P K mg) (SM : SmAt base)  {f : Addr} {fd : FuncData} (hm : mg "_law_number" = some (.ref f)) (F : Fun K "_law_number" "_law_number" (top 59) f fd) : Callee G P w K mg base 1 "_law_number" 2 den__law_number [] :=
  callee_of hm F sc__law_number (F.binds fun _ _ _ _ _ _ us hl => match us, hl with | [_, _], _ => rfl) fun cdv A outer s H E hr hgd tk => by
    have hN : (N__law_number).Nodup := sc__law_number.nd
    exact (pds_one (pds_ret (pd_cmp od_in (op_inAll (r65 hr)) (pd_var 0) (pd_lc [("_law_k", 2)] rfl hN (pdi_rng1 rfl B.b_range (pd_var 1)) (show BlkOk N__law_number (defScope (top 59)) _ _ from ⟨rfl, by decide +kernel, by decide +kernel, by decide +kernel, by decide +kernel⟩) (fun _ _ _ _ _ => (pp_name 2 hN)) (fun _ _ _ _ _ => pdts_nil) (fun _ _ _ _ _ => (pd_str1 rfl B.b_str (pd_var 2)))))))
def body__law_run_due : DS :=
  (dSeq (dSet 2 (dLc (dSeqI (dMS gSplit (dVar 1) (dC (.str "\n")))) (.nm 5) dYes (dMS gSplit (dVar 5) (dC (.str " "))) [5]))
    (dSeq (dIfS (dAnd (dB (dOp gEq (dOp gIx (dOp gIx (dVar 2) (dC (.int 0))) (dC (.int 0))) (dC (.str "none")))) (dB (dOp gGt (dUn gLen (dOp gIx (dVar 2) (dC (.int 0)))) (dC (.int 1))))) (dRet (dTupK (dCons (dC (.str "text")) (dCons (dTupK (dCons (dC (.int 0)) (dCons (dC (.int 1)) dNil))) dNil)))) dNext)
    (dSeq (dIfS (dB (dOp gNe (dOp gIx (dVar 2) (dC (.int 0))) (dLst (dCons (dC (.str "none")) dNil)))) (dFor (dEnum (dOp gIx (dVar 2) (dC (.int 0)))) (.tu [3, 4]) (dIfS (dNot (dB (dCall den__law_number 2 [] (dCons (dVar 4) (dCons (dUn gLen (dOp gIx (dVar 0) (dC (.int 1)))) dNil))))) (dRet (dTupK (dCons (dC (.str "text")) (dCons (dTupK (dCons (dC (.int 0)) (dCons (dVar 3) dNil))) dNil)))) dNext)) dNext)
    (dSeq (dIfS (dB (dOp gGt (dUn gLen (dVar 2)) (dC (.int 1)))) (dRet (dTupK (dCons (dC (.str "text")) (dCons (dTupK (dCons (dC (.int 1)) (dCons (dC (.int 0)) dNil))) dNil)))) dNext)
    (dRet (dLst (dCons (dIf (dB (dOp gEq (dOp gIx (dVar 2) (dC (.int 0))) (dLst (dCons (dC (.str "none")) dNil)))) (dTupK dNil) (dUn gTupK (dLc (dSeqI (dOp gIx (dVar 2) (dC (.int 0)))) (.nm 4) dYes (dUn gIntS (dVar 4)) [4]))) dNil)))))))
def den__law_run_due : Den := dFn 6 body__law_run_due
abbrev N__law_run_due : List Str := ["_law_rig_here", "_law_text", "_law_lines", "_law_k", "_law_word", "_law_line"]
theorem sc__law_run_due : FnScope N__law_run_due ["_law_rig_here", "_law_text"] (defScope (top 60)) := ⟨rfl, rfl, rfl, by decide +kernel, rfl, by decide +kernel, by decide +kernel⟩
theorem ok__law_run_due (B : Bl mg) (C : Cs G mg) (SC : ScrC G K) (X : ExF [0, 1, 3, 6, 8] [0, 1, 3, 6] G P K mg) (SM : SmAt base) (c__law_number : Callee G P w K mg base 1 "_law_number" 2 den__law_number []) {f : Addr} {fd : FuncData} (hm : mg "_law_run_due" = some (.ref f)) (F : Fun K "_law_run_due" "_law_run_due" (top 60) f fd) : Callee G P w K mg base 2 "_law_run_due" 2 den__law_run_due [] :=
  callee_of hm F sc__law_run_due (F.binds fun _ _ _ _ _ _ us hl => match us, hl with | [_, _], _ => rfl) fun cdv A outer s H E hr hgd tk => by
    have hN : (N__law_run_due).Nodup := sc__law_run_due.nd
    exact (pds_cons (pds_setLc 2 [("_law_line", 5)] rfl hN (pdi_seq (pd_split (pd_var 1) pd_str)) (show BlkOk N__law_run_due (defScope (top 60)) _ _ from ⟨rfl, by decide +kernel, by decide +kernel, by decide +kernel, by decide +kernel⟩) (fun _ _ _ _ _ => (pp_name 5 hN)) (fun _ _ _ _ _ => pdts_nil) (fun _ _ _ _ _ => (pd_split (pd_var 5) pd_str)))
    (pds_cons (pds_if (PDW.pdt (pdw_and (pdt_cmp od_eq (op_eqE (r64 hr)) (pd_ix od_ix (ix_all (r1 hr)) (pd_ix od_ix (ix_all (r1 hr)) (pd_var 2) pd_int) pd_int) pd_str) (pdw_and1 (pdt_cmp od_gt op_gt (pd_len rfl B.b_len (pd_ix od_ix (ix_all (r1 hr)) (pd_var 2) pd_int)) pd_int)))) (pds_one (pds_ret (pd_tupD (pda_cons pd_str (pda_cons (pd_tupD (pda_cons pd_int (pda_cons pd_int pda_nil))) pda_nil))))) pds_nil)
    (pds_cons (pds_if (pdt_cmp od_ne (op_neE (r64 hr)) (pd_ix od_ix (ix_all (r1 hr)) (pd_var 2) pd_int) (pd_lst (pda_cons pd_str pda_nil))) (pds_one (pds_for (passes_of rfl) rfl (pdi_enum rfl B.b_enumerate (pd_ix od_ix (ix_all (r1 hr)) (pd_var 2) pd_int)) (pp_tup rfl (pps_cons 3 hN (pps_cons 4 hN pps_nil))) (pds_one (pds_if (pdt_not (pdt_val (pd_callC 2 c__law_number (hr.mono (by decide)) hgd tk (pda_cons (pd_var 4) (pda_cons (pd_len rfl B.b_len (pd_ix od_ix (ix_all (r1 hr)) (pd_var 0) pd_int)) pda_nil))))) (pds_one (pds_ret (pd_tupD (pda_cons pd_str (pda_cons (pd_tupD (pda_cons pd_int (pda_cons (pd_var 3) pda_nil))) pda_nil))))) pds_nil)))) pds_nil)
    (pds_cons (pds_if (pdt_cmp od_gt op_gt (pd_len rfl B.b_len (pd_var 2)) pd_int) (pds_one (pds_ret (pd_tupD (pda_cons pd_str (pda_cons (pd_tupD (pda_cons pd_int (pda_cons pd_int pda_nil))) pda_nil))))) pds_nil)
    (pds_one (pds_ret (pd_lst (pda_cons (pd_if (pdt_cmp od_eq (op_eqE (r64 hr)) (pd_ix od_ix (ix_all (r1 hr)) (pd_var 2) pd_int) (pd_lst (pda_cons pd_str pda_nil))) (pd_tupD pda_nil) (pd_tupK rfl B.b_tuple (pd_lc [("_law_word", 4)] rfl hN (pdi_seq (pd_ix od_ix (ix_all (r1 hr)) (pd_var 2) pd_int)) (show BlkOk N__law_run_due (defScope (top 60)) _ _ from ⟨rfl, by decide +kernel, by decide +kernel, by decide +kernel, by decide +kernel⟩) (fun _ _ _ _ _ => (pp_name 4 hN)) (fun _ _ _ _ _ => pdts_nil) (fun _ _ _ _ _ => (pd_intS rfl B.b_int (pd_var 4)))))) pda_nil))))))))
def body__law_runs_right : DS :=
  (dSeq (dSet 2 (dUn gLen (dOp gIx (dVar 1) (dC (.int 1)))))
    (dSeq (dSet 8 (dUn gTupK (dLc (dRng1 (dCall den__law_next 2 [] (dCons (dVar 0) (dCons (dC (.int 5)) dNil)))) (.nm 3) dYes (dCall den__law_next 2 [] (dCons (dVar 0) (dCons (dVar 2) dNil))) [3])))
    (dSeq (dSet 9 (dCall den__law_among 2 [] (dCons (dVar 0) (dCons (dLst (dCons (dC .non) (dCons (dUn gNeg (dC (.int 1))) (dCons (dVar 2) (dCons (dC (.bl true)) (dCons (dC (.str "0")) (dCons (dTupK (dCons (dC (.int 0)) dNil)) (dCons (dLst (dCons (dC (.int 0)) dNil)) (dCons (dDic0 false) (dCons (dOp gPow (dC (.int 10)) (dC (.int 29))) dNil)))))))))) dNil))))
    (dSeq (dIfS (dB (dOp gNe (dUn gRepr (dLam den__law_said (dCall den_run_text 2 [] (dCons (dVar 1) (dCons (dOp gAdd (dVar 8) (dTupK (dCons (dVar 9) (dCons (dC (.int 0)) dNil)))) dNil))))) (dUn gRepr (dTupK (dCons (dC (.str "run")) (dCons (dTupK (dCons (dUn gLen (dVar 8)) dNil)) dNil)))))) (dRet (dC (.bl false))) dNext)
    (dSeq (dSet 7 (dCall den__law_among 2 [] (dCons (dVar 0) (dCons (dLst (dCons (dC .non) (dCons (dC (.int 5)) (dCons (dC (.str "0")) (dCons (dLst (dCons (dC (.int 0)) dNil)) (dCons (dDic0 false) (dCons (dOp gMulB (dTupK (dCons (dC (.int 0)) dNil)) (dC (.int 1001))) (dCons (dC (.bl true)) dNil)))))))) dNil))))
    (dSeq (dIfS (dOr (dB (dOp gNe (dLam den__law_said (dCall den_run_text 2 [] (dCons (dVar 1) (dCons (dVar 7) dNil)))) (dTupK (dCons (dC (.str "run")) (dCons (dTupK dNil) dNil))))) (dB (dOp gNe (dUn gLen (dCall den_run_text 2 [] (dCons (dVar 1) (dCons (dOp gMul (dTupK (dCons (dC (.int 0)) dNil)) (dC (.int 1000))) dNil)))) (dC (.int 1999))))) (dRet (dC (.bl false))) dNext)
    (dSeq (dSet 4 (dLc (dSeqI (dVar 8)) (.nm 3) dYes (dUn gStr (dVar 3)) [3]))
    (dSeq (dFor (dRng1 (dOp gAdd (dC (.int 1)) (dCall den__law_next 2 [] (dCons (dVar 0) (dCons (dC (.int 3)) dNil))))) (.nm 3) (dSeq (dSet 5 (dLst (dCons (dC (.str "none")) (dCons (dC (.str "")) (dCons (dC (.str "x")) (dCons (dC (.str "00")) (dCons (dC (.str "01")) (dCons (dC (.str "-1")) (dCons (dC (.str "+1")) (dCons (dC (.str "0")) (dCons (dC (.str "9")) (dCons (dUn gStr (dVar 2)) (dCons (dC (.str "1_0")) (dCons (dC (.str "100000")) (dCons (dC (.str "0\n1")) (dCons (dC (.str "None")) dNil))))))))))))))))
    (dSeq (dSet 6 (dCall den__law_next 2 [] (dCons (dVar 0) (dCons (dOp gAdd (dUn gLen (dVar 4)) (dC (.int 1))) dNil))))
    (dSeq (dSet 4 (dOp gAdd (dOp gAdd (dSl (dVar 4) dNoPart (dPart (dVar 6))) (dLst (dCons (dCall den__law_among 2 [] (dCons (dVar 0) (dCons (dVar 5) dNil))) dNil))) (dSl (dVar 4) (dPart (dVar 6)) dNoPart)))
    (dSeq (dSet 10 (dMS gJoin (dC (.str " ")) (dVar 4)))
    (dIfS (dB (dOp gNe (dUn gRepr (dLam den__law_said (dCall den_read_run 2 [] (dCons (dVar 1) (dCons (dVar 10) dNil))))) (dUn gRepr (dCall den__law_run_due 2 [] (dCons (dVar 1) (dCons (dVar 10) dNil)))))) (dRet (dC (.bl false))) dNext))))))
    (dRet (dC (.bl true)))))))))))
def den__law_runs_right : Den := dFn 11 body__law_runs_right
abbrev N__law_runs_right : List Str := ["_law_draw", "_law_rig_here", "_law_total", "_law_k", "_law_words", "_law_some", "_law_at", "_law_bad", "_law_good", "_law_odd", "_law_text"]
theorem sc__law_runs_right : FnScope N__law_runs_right ["_law_draw", "_law_rig_here"] (defScope (top 61)) := ⟨rfl, rfl, rfl, by decide +kernel, rfl, by decide +kernel, by decide +kernel⟩
theorem ok__law_runs_right (B : Bl mg) (C : Cs G mg) (SC : ScrC G K) (X : ExF [0, 1, 3, 6, 8] [0, 1, 3, 6] G P K mg) (SM : SmAt base) (c__law_next : Callee G P w K mg base 1 "_law_next" 2 den__law_next []) (c__law_among : Callee G P w K mg base 2 "_law_among" 2 den__law_among []) (c_run_text : Callee G P w K mg base 5 "run_text" 2 den_run_text []) (c_read_run : Callee G P w K mg base 5 "read_run" 2 den_read_run []) (c__law_run_due : Callee G P w K mg base 2 "_law_run_due" 2 den__law_run_due []) (l__law_said : CalleeL G P w K mg base 26 25 "_law_said" den__law_said) {cM PM : Addr} (TT : TabT G base mg cM PM ("_law_runs_right" ++ ".<locals>." ++ "<lambda>")) {f : Addr} {fd : FuncData} (hm : mg "_law_runs_right" = some (.ref f)) (F : FunC K "_law_runs_right" "_law_runs_right" (top 61) f fd cM) : Callee G P w K mg base 28 "_law_runs_right" 2 den__law_runs_right [] :=
  callee_ofC hm F sc__law_runs_right (F.fn.binds fun _ _ _ _ _ _ us hl => match us, hl with | [_, _], _ => rfl) fun A outer s H E hr hgd tk => by
    have hN : (N__law_runs_right).Nodup := sc__law_runs_right.nd
    exact (pds_cons (pds_set 2 hN (pd_len rfl B.b_len (pd_ix od_ix (ix_all (r1 hr)) (pd_var 1) pd_int)))
    (pds_cons (pds_set 8 hN (pd_tupK rfl B.b_tuple (pd_lc [("_law_k", 3)] rfl hN (pdi_rng1 rfl B.b_range (pd_callC 2 c__law_next (hr.mono (by decide)) hgd tk (pda_cons (pd_var 0) (pda_cons pd_int pda_nil)))) (show BlkOk N__law_runs_right (defScope (top 61)) _ _ from ⟨rfl, by decide +kernel, by decide +kernel, by decide +kernel, by decide +kernel⟩) (fun _ _ _ _ _ => (pp_name 3 hN)) (fun _ _ _ _ _ => pdts_nil) (fun _ _ _ _ _ => (pd_callC 2 c__law_next (hr.mono (by decide)) hgd takes0 (pda_cons (pd_var 0) (pda_cons (pd_var 2) pda_nil)))))))
    (pds_cons (pds_set 9 hN (pd_callC 2 c__law_among (hr.mono (by decide)) hgd tk (pda_cons (pd_var 0) (pda_cons (pd_lst (pda_cons pd_non (pda_cons (pd_un ud_neg un_neg pd_int) (pda_cons (pd_var 2) (pda_cons pd_bl (pda_cons pd_str (pda_cons (pd_tupD (pda_cons pd_int pda_nil)) (pda_cons (pd_lst (pda_cons pd_int pda_nil)) (pda_cons pd_dict0K (pda_cons (pd_op od_pow op_pow pd_int pd_int) pda_nil)))))))))) pda_nil))))
    (pds_cons (pds_if (pdt_cmp od_ne (op_neE (r64 hr)) (pd_repr SM hgd (r64 hr) rfl B.b_repr (pd_lamK [] l__law_said (hr.mono (by decide)) hgd tk TT (by kernel_rfl) (.inl ⟨rfl, rfl⟩) (lamB_nil fun _ _ _ _ _ => rfl) (fun A outer s H E f c' hr hgd tk => (pd_callC 2 c_run_text (hr.mono (by decide)) hgd tk (pda_cons (pd_var 1) (pda_cons (pd_op od_add op_addD (pd_var 8) (pd_tupD (pda_cons (pd_var 9) (pda_cons pd_int pda_nil)))) pda_nil)))))) (pd_repr SM hgd (r64 hr) rfl B.b_repr (pd_tupD (pda_cons pd_str (pda_cons (pd_tupD (pda_cons (pd_len rfl B.b_len (pd_var 8)) pda_nil)) pda_nil))))) (pds_one (pds_ret pd_bl)) pds_nil)
    (pds_cons (pds_set 7 hN (pd_callC 2 c__law_among (hr.mono (by decide)) hgd tk (pda_cons (pd_var 0) (pda_cons (pd_lst (pda_cons pd_non (pda_cons pd_int (pda_cons pd_str (pda_cons (pd_lst (pda_cons pd_int pda_nil)) (pda_cons pd_dict0K (pda_cons (pd_op od_mulB op_repB (pd_tupD (pda_cons pd_int pda_nil)) pd_int) (pda_cons pd_bl pda_nil)))))))) pda_nil))))
    (pds_cons (pds_if (PDW.pdt (pdw_or (pdt_cmp od_ne (op_neE (r64 hr)) (pd_lamK [] l__law_said (hr.mono (by decide)) hgd tk TT (by kernel_rfl) (.inl ⟨rfl, rfl⟩) (lamB_nil fun _ _ _ _ _ => rfl) (fun A outer s H E f c' hr hgd tk => (pd_callC 2 c_run_text (hr.mono (by decide)) hgd tk (pda_cons (pd_var 1) (pda_cons (pd_var 7) pda_nil))))) (pd_tupD (pda_cons pd_str (pda_cons (pd_tupD pda_nil) pda_nil)))) (pdw_or1 (pdt_cmp od_ne (op_neE (r64 hr)) (pd_len rfl B.b_len (pd_callC 2 c_run_text (hr.mono (by decide)) hgd tk (pda_cons (pd_var 1) (pda_cons (pd_op od_mul op_mulD (pd_tupD (pda_cons pd_int pda_nil)) pd_int) pda_nil)))) pd_int)))) (pds_one (pds_ret pd_bl)) pds_nil)
    (pds_cons (pds_setLc 4 [("_law_k", 3)] rfl hN (pdi_seq (pd_var 8)) (show BlkOk N__law_runs_right (defScope (top 61)) _ _ from ⟨rfl, by decide +kernel, by decide +kernel, by decide +kernel, by decide +kernel⟩) (fun _ _ _ _ _ => (pp_name 3 hN)) (fun _ _ _ _ _ => pdts_nil) (fun _ _ _ _ _ => (pd_str1 rfl B.b_str (pd_var 3))))
    (pds_cons (pds_for (passes_of rfl) rfl (pdi_rng1 rfl B.b_range (pd_op od_add op_addD pd_int (pd_callC 2 c__law_next (hr.mono (by decide)) hgd tk (pda_cons (pd_var 0) (pda_cons pd_int pda_nil))))) (pp_name 3 hN) (pds_cons (pds_set 5 hN (pd_lst (pda_cons pd_str (pda_cons pd_str (pda_cons pd_str (pda_cons pd_str (pda_cons pd_str (pda_cons pd_str (pda_cons pd_str (pda_cons pd_str (pda_cons pd_str (pda_cons (pd_str1 rfl B.b_str (pd_var 2)) (pda_cons pd_str (pda_cons pd_str (pda_cons pd_str (pda_cons pd_str pda_nil))))))))))))))))
    (pds_cons (pds_set 6 hN (pd_callC 2 c__law_next (hr.mono (by decide)) hgd tk (pda_cons (pd_var 0) (pda_cons (pd_op od_add op_addD (pd_len rfl B.b_len (pd_var 4)) pd_int) pda_nil))))
    (pds_cons (pds_set 4 hN (pd_op od_add op_addD (pd_op od_add op_addD (pd_slice (pd_var 4) pdo_none (pdo_some (pd_var 6))) (pd_lst (pda_cons (pd_callC 2 c__law_among (hr.mono (by decide)) hgd tk (pda_cons (pd_var 0) (pda_cons (pd_var 5) pda_nil))) pda_nil))) (pd_slice (pd_var 4) (pdo_some (pd_var 6)) pdo_none)))
    (pds_cons (pds_set 10 hN (pd_join pd_str (pd_var 4)))
    (pds_one (pds_if (pdt_cmp od_ne (op_neE (r64 hr)) (pd_repr SM hgd (r64 hr) rfl B.b_repr (pd_lamK [] l__law_said (hr.mono (by decide)) hgd tk TT (by kernel_rfl) (.inl ⟨rfl, rfl⟩) (lamB_nil fun _ _ _ _ _ => rfl) (fun A outer s H E f c' hr hgd tk => (pd_callC 2 c_read_run (hr.mono (by decide)) hgd tk (pda_cons (pd_var 1) (pda_cons (pd_var 10) pda_nil)))))) (pd_repr SM hgd (r64 hr) rfl B.b_repr (pd_callC 2 c__law_run_due (hr.mono (by decide)) hgd tk (pda_cons (pd_var 1) (pda_cons (pd_var 10) pda_nil))))) (pds_one (pds_ret pd_bl)) pds_nil)))))))
    (pds_one (pds_ret pd_bl))))))))))
def body_law : DS :=
  (dSeq (dSet 1 (dCall den__law_begun 1 [] (dCons (dVar 0) dNil)))
    (dSeq (dFor (dRng1 (dOp gAdd (dC (.int 3)) (dOp gFdiv (dOp gMin (dC (.int 60)) (dUn gLenS (dVar 0))) (dC (.int 5))))) (.nm 2) (dSeq (dSet 8 (dCall den__law_rig 1 [] (dCons (dVar 1) dNil)))
    (dSeq (dSet 6 (dCall den__law_among 2 [] (dCons (dVar 1) (dCons (dLst (dCons (dC .non) (dCons (dC (.int 5)) (dCons (dTupK dNil) (dCons (dSl (dVar 8) dNoPart (dPart (dC (.int 4)))) (dCons (dUn gList (dVar 8)) (dCons (dC (.str "rig")) (dCons (dDic0 false) dNil)))))))) dNil))))
    (dSeq (dSet 3 (dLst (dCons (dLam den__law_said (dCall den_rig_text 1 [] (dCons (dVar 6) dNil))) (dCons (dLam den__law_said (dCall den_run_text 2 [] (dCons (dVar 6) (dCons (dC .non) dNil)))) dNil))))
    (dSeq (dDrop (dAppend (dVar 3) (dLam den__law_said (dCall den_read_run 2 [] (dCons (dVar 6) (dCons (dC .non) dNil))))))
    (dSeq (dIfS (dOr (dB (dOp gNe (dVar 3) (dOp gMul (dLst (dCons (dTupK (dCons (dC (.str "rig")) (dCons (dTupK dNil) dNil))) dNil)) (dC (.int 3))))) (dNot (dB (dCall den__law_runs_right 2 [] (dCons (dVar 1) (dCons (dVar 8) dNil)))))) (dRet (dC (.bl false))) dNext)
    (dSeq (dSet 7 (dCall den__law_among 2 [] (dCons (dVar 1) (dCons (dLst (dCons (dC .non) (dCons (dC (.int 5)) (dCons (dC (.bl true)) (dCons (dTupK (dCons (dC (.str "0")) dNil)) (dCons (dLst (dCons (dC (.str "0")) dNil)) (dCons (dDic0 false) (dCons (dTupK dNil) (dCons (dOp gPow (dC (.int 10)) (dC (.int 29))) dNil))))))))) dNil))))
    (dIfS (dB (dOp gNe (dLst (dCons (dLam den__law_said (dCall den_read_rig 1 [] (dCons (dVar 7) dNil))) (dCons (dLam den__law_said (dCall den_read_run 2 [] (dCons (dVar 8) (dCons (dVar 7) dNil)))) dNil))) (dOp gMul (dLst (dCons (dTupK (dCons (dC (.str "text")) (dCons (dTupK dNil) dNil))) dNil)) (dC (.int 2))))) (dRet (dC (.bl false))) dNext))))))))
    (dSeq (dSet 8 (dTupK (dCons (dTupK (dCons (dC (.int 0)) (dCons (dC (.int 1)) dNil))) (dCons (dTupK (dCons (dTupK (dCons (dC (.int 0)) (dCons (dC (.int 0)) (dCons (dC .non) (dCons (dC (.int 1)) dNil))))) (dCons (dTupK (dCons (dC (.int 1)) (dCons (dC (.int 0)) (dCons (dC .non) (dCons (dC (.int 0)) dNil))))) dNil))) (dCons (dC (.int 60)) (dCons (dC (.int 1)) (dCons (dTupK (dCons (dC (.int 10)) (dCons (dC (.int 1)) dNil))) dNil)))))))
    (dSeq (dSet 4 (dLst (dCons (dC (.str "")) (dCons (dC (.str "none")) (dCons (dC (.str "none 1")) (dCons (dC (.str "none\n")) (dCons (dC (.str "1 none")) (dCons (dC (.str "0 1 0")) (dCons (dC (.str "0 2")) (dCons (dC (.str "0  1")) (dCons (dC (.str " 0")) (dCons (dC (.str "0 ")) dNil))))))))))))
    (dSeq (dSet 5 (dLst (dCons (dTupK (dCons (dC (.str "text")) (dCons (dTupK (dCons (dC (.int 0)) (dCons (dC (.int 0)) dNil))) dNil))) (dCons (dLst (dCons (dTupK dNil) dNil)) (dCons (dTupK (dCons (dC (.str "text")) (dCons (dTupK (dCons (dC (.int 0)) (dCons (dC (.int 1)) dNil))) dNil))) (dCons (dTupK (dCons (dC (.str "text")) (dCons (dTupK (dCons (dC (.int 1)) (dCons (dC (.int 0)) dNil))) dNil))) (dCons (dTupK (dCons (dC (.str "text")) (dCons (dTupK (dCons (dC (.int 0)) (dCons (dC (.int 1)) dNil))) dNil))) (dCons (dLst (dCons (dTupK (dCons (dC (.int 0)) (dCons (dC (.int 1)) (dCons (dC (.int 0)) dNil)))) dNil)) (dCons (dTupK (dCons (dC (.str "text")) (dCons (dTupK (dCons (dC (.int 0)) (dCons (dC (.int 1)) dNil))) dNil))) dNil)))))))))
    (dSeq (dSet 5 (dOp gAdd (dVar 5) (dLst (dCons (dTupK (dCons (dC (.str "text")) (dCons (dTupK (dCons (dC (.int 0)) (dCons (dC (.int 1)) dNil))) dNil))) (dCons (dTupK (dCons (dC (.str "text")) (dCons (dTupK (dCons (dC (.int 0)) (dCons (dC (.int 0)) dNil))) dNil))) (dCons (dTupK (dCons (dC (.str "text")) (dCons (dTupK (dCons (dC (.int 0)) (dCons (dC (.int 1)) dNil))) dNil))) dNil))))))
    (dRet (dOp gEq (dLc (dSeqI (dVar 4)) (.nm 9) dYes (dLam den__law_said (dCall den_read_run 2 [] (dCons (dVar 8) (dCons (dVar 9) dNil)))) [9]) (dVar 5)))))))))
def den_law : Den := dFn 10 body_law
abbrev N_law : List Str := ["_law_script", "_law_draw", "_law_turn", "_law_heard", "_law_texts", "_law_due", "_law_bad", "_law_odd", "_law_rig_here", "_law_text"]
theorem sc_law : FnScope N_law ["_law_script"] (defScope (top 62)) := ⟨rfl, rfl, rfl, by decide +kernel, rfl, by decide +kernel, by decide +kernel⟩
theorem ok_law (B : Bl mg) (C : Cs G mg) (SC : ScrC G K) (X : ExF [0, 1, 3, 6, 8] [0, 1, 3, 6] G P K mg) (SM : SmAt base) (c__law_begun : Callee G P w K mg base 1 "_law_begun" 1 den__law_begun []) (c__law_rig : Callee G P w K mg base 3 "_law_rig" 1 den__law_rig []) (c__law_among : Callee G P w K mg base 2 "_law_among" 2 den__law_among []) (c_rig_text : Callee G P w K mg base 5 "rig_text" 1 den_rig_text []) (c_run_text : Callee G P w K mg base 5 "run_text" 2 den_run_text []) (c_read_run : Callee G P w K mg base 5 "read_run" 2 den_read_run []) (c__law_runs_right : Callee G P w K mg base 28 "_law_runs_right" 2 den__law_runs_right []) (c_read_rig : Callee G P w K mg base 5 "read_rig" 1 den_read_rig []) (l__law_said : CalleeL G P w K mg base 26 25 "_law_said" den__law_said) {cM PM : Addr} (TT : TabT G base mg cM PM ("law" ++ ".<locals>." ++ "<lambda>")) {f : Addr} {fd : FuncData} (hm : mg "law" = some (.ref f)) (F : FunC K "law" "law" (top 62) f fd cM) : Callee G P w K mg base 29 "law" 1 den_law [] :=
  callee_ofC hm F sc_law (F.fn.binds fun _ _ _ _ _ _ us hl => match us, hl with | [_], _ => rfl) fun A outer s H E hr hgd tk => by
    have hN : (N_law).Nodup := sc_law.nd
    exact (pds_cons (pds_set 1 hN (pd_callC 1 c__law_begun (hr.mono (by decide)) hgd tk (pda_cons (pd_var 0) pda_nil)))
    (pds_cons (pds_for (passes_of rfl) rfl (pdi_rng1 rfl B.b_range (pd_op od_add op_addD pd_int (pd_op od_fdiv op_fdivN (pd_min2 rfl rfl B.b_min pd_int (pd_lenS SC rfl B.b_len (pd_var 0))) pd_int))) (pp_name 2 hN) (pds_cons (pds_set 8 hN (pd_callC 1 c__law_rig (hr.mono (by decide)) hgd tk (pda_cons (pd_var 1) pda_nil)))
    (pds_cons (pds_set 6 hN (pd_callC 2 c__law_among (hr.mono (by decide)) hgd tk (pda_cons (pd_var 1) (pda_cons (pd_lst (pda_cons pd_non (pda_cons pd_int (pda_cons (pd_tupD pda_nil) (pda_cons (pd_slice (pd_var 8) pdo_none (pdo_some pd_int)) (pda_cons (pd_list1 rfl B.b_list (pd_var 8)) (pda_cons pd_str (pda_cons pd_dict0K pda_nil)))))))) pda_nil))))
    (pds_cons (pds_set 3 hN (pd_lst (pda_cons (pd_lamK [] l__law_said (hr.mono (by decide)) hgd tk TT (by kernel_rfl) (.inl ⟨rfl, rfl⟩) (lamB_nil fun _ _ _ _ _ => rfl) (fun A outer s H E f c' hr hgd tk => (pd_callC 1 c_rig_text (hr.mono (by decide)) hgd tk (pda_cons (pd_var 6) pda_nil)))) (pda_cons (pd_lamK ["_law_x"] l__law_said (hr.mono (by decide)) hgd tk TT (by kernel_rfl) (.inr ⟨rfl, 0, _, _, rfl⟩) (lamB_one fun _ _ _ _ _ _ _ => ⟨_, rfl, rfl⟩) (fun A outer s H E f c' hr hgd tk => (pd_callC 2 c_run_text (hr.mono (by decide)) hgd tk (pda_cons (pd_var 6) (pda_cons pd_non pda_nil))))) pda_nil))))
    (pds_cons (pds_expr (pd_append (pd_var 3) (pd_lamK [] l__law_said (hr.mono (by decide)) hgd tk TT (by kernel_rfl) (.inl ⟨rfl, rfl⟩) (lamB_nil fun _ _ _ _ _ => rfl) (fun A outer s H E f c' hr hgd tk => (pd_callC 2 c_read_run (hr.mono (by decide)) hgd tk (pda_cons (pd_var 6) (pda_cons pd_non pda_nil)))))))
    (pds_cons (pds_if (PDW.pdt (pdw_or (pdt_cmp od_ne (op_neE (r64 hr)) (pd_var 3) (pd_op od_mul op_mulD (pd_lst (pda_cons (pd_tupD (pda_cons pd_str (pda_cons (pd_tupD pda_nil) pda_nil))) pda_nil)) pd_int)) (pdw_or1 (pdt_not (pdt_val (pd_callC 2 c__law_runs_right (hr.mono (by decide)) hgd tk (pda_cons (pd_var 1) (pda_cons (pd_var 8) pda_nil)))))))) (pds_one (pds_ret pd_bl)) pds_nil)
    (pds_cons (pds_set 7 hN (pd_callC 2 c__law_among (hr.mono (by decide)) hgd tk (pda_cons (pd_var 1) (pda_cons (pd_lst (pda_cons pd_non (pda_cons pd_int (pda_cons pd_bl (pda_cons (pd_tupD (pda_cons pd_str pda_nil)) (pda_cons (pd_lst (pda_cons pd_str pda_nil)) (pda_cons pd_dict0K (pda_cons (pd_tupD pda_nil) (pda_cons (pd_op od_pow op_pow pd_int pd_int) pda_nil))))))))) pda_nil))))
    (pds_one (pds_if (pdt_cmp od_ne (op_neE (r64 hr)) (pd_lst (pda_cons (pd_lamK [] l__law_said (hr.mono (by decide)) hgd tk TT (by kernel_rfl) (.inl ⟨rfl, rfl⟩) (lamB_nil fun _ _ _ _ _ => rfl) (fun A outer s H E f c' hr hgd tk => (pd_callC 1 c_read_rig (hr.mono (by decide)) hgd tk (pda_cons (pd_var 7) pda_nil)))) (pda_cons (pd_lamK ["_law_x"] l__law_said (hr.mono (by decide)) hgd tk TT (by kernel_rfl) (.inr ⟨rfl, 0, _, _, rfl⟩) (lamB_one fun _ _ _ _ _ _ _ => ⟨_, rfl, rfl⟩) (fun A outer s H E f c' hr hgd tk => (pd_callC 2 c_read_run (hr.mono (by decide)) hgd tk (pda_cons (pd_var 8) (pda_cons (pd_var 7) pda_nil))))) pda_nil))) (pd_op od_mul op_mulD (pd_lst (pda_cons (pd_tupD (pda_cons pd_str (pda_cons (pd_tupD pda_nil) pda_nil))) pda_nil)) pd_int)) (pds_one (pds_ret pd_bl)) pds_nil)))))))))
    (pds_cons (pds_set 8 hN (pd_tupD (pda_cons (pd_tupD (pda_cons pd_int (pda_cons pd_int pda_nil))) (pda_cons (pd_tupD (pda_cons (pd_tupD (pda_cons pd_int (pda_cons pd_int (pda_cons pd_non (pda_cons pd_int pda_nil))))) (pda_cons (pd_tupD (pda_cons pd_int (pda_cons pd_int (pda_cons pd_non (pda_cons pd_int pda_nil))))) pda_nil))) (pda_cons pd_int (pda_cons pd_int (pda_cons (pd_tupD (pda_cons pd_int (pda_cons pd_int pda_nil))) pda_nil)))))))
    (pds_cons (pds_set 4 hN (pd_lst (pda_cons pd_str (pda_cons pd_str (pda_cons pd_str (pda_cons pd_str (pda_cons pd_str (pda_cons pd_str (pda_cons pd_str (pda_cons pd_str (pda_cons pd_str (pda_cons pd_str pda_nil))))))))))))
    (pds_cons (pds_set 5 hN (pd_lst (pda_cons (pd_tupD (pda_cons pd_str (pda_cons (pd_tupD (pda_cons pd_int (pda_cons pd_int pda_nil))) pda_nil))) (pda_cons (pd_lst (pda_cons (pd_tupD pda_nil) pda_nil)) (pda_cons (pd_tupD (pda_cons pd_str (pda_cons (pd_tupD (pda_cons pd_int (pda_cons pd_int pda_nil))) pda_nil))) (pda_cons (pd_tupD (pda_cons pd_str (pda_cons (pd_tupD (pda_cons pd_int (pda_cons pd_int pda_nil))) pda_nil))) (pda_cons (pd_tupD (pda_cons pd_str (pda_cons (pd_tupD (pda_cons pd_int (pda_cons pd_int pda_nil))) pda_nil))) (pda_cons (pd_lst (pda_cons (pd_tupD (pda_cons pd_int (pda_cons pd_int (pda_cons pd_int pda_nil)))) pda_nil)) (pda_cons (pd_tupD (pda_cons pd_str (pda_cons (pd_tupD (pda_cons pd_int (pda_cons pd_int pda_nil))) pda_nil))) pda_nil)))))))))
    (pds_cons (pds_set 5 hN (pd_op od_add op_addD (pd_var 5) (pd_lst (pda_cons (pd_tupD (pda_cons pd_str (pda_cons (pd_tupD (pda_cons pd_int (pda_cons pd_int pda_nil))) pda_nil))) (pda_cons (pd_tupD (pda_cons pd_str (pda_cons (pd_tupD (pda_cons pd_int (pda_cons pd_int pda_nil))) pda_nil))) (pda_cons (pd_tupD (pda_cons pd_str (pda_cons (pd_tupD (pda_cons pd_int (pda_cons pd_int pda_nil))) pda_nil))) pda_nil))))))
    (pds_one (pds_ret (pd_cmp od_eq (op_eqE (r64 hr)) (pd_lc [("_law_text", 9)] rfl hN (pdi_seq (pd_var 4)) (show BlkOk N_law (defScope (top 62)) _ _ from ⟨rfl, by decide +kernel, by decide +kernel, by decide +kernel, by decide +kernel⟩) (fun _ _ _ _ _ => (pp_name 9 hN)) (fun _ _ _ _ _ => pdts_nil) (fun _ _ _ _ _ => (pd_lamK [] l__law_said (hr.mono (by decide)) hgd takes0 TT (by kernel_rfl) (.inl ⟨rfl, rfl⟩) (lamB_nil fun _ _ _ _ _ => rfl) (fun A outer s H E f c' hr hgd tk => (pd_callC 2 c_read_run (hr.mono (by decide)) hgd tk (pda_cons (pd_var 8) (pda_cons (pd_var 9) pda_nil))))))) (pd_var 5))))))))))
end
end Sag
namespace Sag
open PySem PySem.Spec PyProof.Rows L2 DL
def whD (d : D) (lo hi : Int) : Bool := match d with
  | .int i => decide (lo ≤ i) && decide (i ≤ hi)
  | _ => false
section
variable {g : Gst} {Q : Rv → Gst → Prop} {E : Xd → Gst → Prop}
theorem is_whole_ok {d : D} {lo hi : Int} (h : gd d = true) (q : Q (.v (.bl (whD d lo hi))) g) : den_is_whole [d, .int lo, .int hi] g Q E := by
  cases d with
  | int i =>
    simp only [den_is_whole, body_is_whole, dFn, dSeq, dIfS, dOr, dAnd, dNot, dB, dIsT, dVar, startD, nthO, setN, Sd.put, List.map_cons, List.map_nil, List.cons_append, List.nil_append, List.length_cons, List.length_nil, List.replicate, view, DL.settle, bindO, gIsInt, gIsBool, gIsTup, gIsStr, gIsLst, dRet, dRetN, dC, outR, dNext, dOp, dUn, gIsN, gNotN, gGe, gLe, gGt, gLt, gI, dAndV, dOrV, dNotV, rB, rI', isNonD, dCall, dCons, dNil, guardB, dSet, dStore, dTup, dTupK, dLst, fewL, dIf, dChain, dDrop, Bool.not_true, Bool.not_false, List.append_nil, Nat.reduceAdd, Nat.reduceSub, Nat.reduceBEq, beq_self_eq_true, dPar, dUA, unAl, DL.storeAll, dUnp, patStore, DL.putAll, Sd.wipe, wipeE, putO, clrN, gNe_ii, gEq_ii, gNe_l0, gEq_l0, gNe_t0, gEq_t0, gLen_t, gLen_l, gIx_t, gIx_l, atI_0, atI_1, atI_2, atI_3, atI_4, Option.map_some]
    simp only [whD] at q
    cases h1 : decide (lo ≤ i) <;> rw [h1] at q <;> exact q
  | _ => first | (simp [gd] at h; done) | exact q
theorem fmod_nat {a b : Nat} : ((a : Int)).fmod (b : Int) = ((a % b : Nat) : Int) := by
  rw [Int.fmod_eq_emod_of_nonneg _ (by omega)]
  exact (Int.natCast_emod a b).symm
theorem common_loop : ∀ (b a : Nat) (D1 : Dn), D1.nx ⟨[some (.v (.int (Nat.gcd a b))), some (.v (.int 0))], g⟩ →
    ∃ n, whileN n (dB (dOp gGt (dVar 1) (dC (.int 0)))) (dPar [0, 1] [(dVar 1), (dOp gMod (dUn gInt (dVar 0)) (dVar 1))]) D1 ⟨[some (.v (.int a)), some (.v (.int b))], g⟩ := by
  intro b
  induction b using Nat.strongRecOn with
  | ind b ih =>
    intro a D1 q
    by_cases hb : b = 0
    · subst hb
      refine ⟨1, ?_⟩
      simp only [whileN, dFn, dSeq, dIfS, dOr, dAnd, dNot, dB, dIsT, dVar, startD, nthO, setN, Sd.put, List.map_cons, List.map_nil, List.cons_append, List.nil_append, List.length_cons, List.length_nil, List.replicate, view, DL.settle, bindO, gIsInt, gIsBool, gIsTup, gIsStr, gIsLst, dRet, dRetN, dC, outR, dNext, dOp, dUn, gIsN, gNotN, gGe, gLe, gGt, gLt, gI, dAndV, dOrV, dNotV, rB, rI', isNonD, dCall, dCons, dNil, guardB, dSet, dStore, dTup, dTupK, dLst, fewL, dIf, dChain, dDrop, Bool.not_true, Bool.not_false, List.append_nil, Nat.reduceAdd, Nat.reduceSub, Nat.reduceBEq, beq_self_eq_true, dPar, dUA, unAl, DL.storeAll, dUnp, patStore, DL.putAll, Sd.wipe, wipeE, putO, clrN, gNe_ii, gEq_ii, gNe_l0, gEq_l0, gNe_t0, gEq_t0, gLen_t, gLen_l, gIx_t, gIx_l, atI_0, atI_1, atI_2, atI_3, atI_4, Option.map_some]
      rw [Nat.gcd_zero_right] at q
      exact q
    · have hlt : a % b < b := Nat.mod_lt _ (by omega)
      have e : Nat.gcd b (a % b) = Nat.gcd a b := by rw [Nat.gcd_comm b, ← Nat.gcd_rec, Nat.gcd_comm]
      obtain ⟨n, hn⟩ := ih (a % b) hlt b D1 (by rw [e]; exact q)
      refine ⟨n + 1, ?_⟩
      simp only [whileN, gMod, gInt, ifB, dFn, dSeq, dIfS, dOr, dAnd, dNot, dB, dIsT, dVar, startD, nthO, setN, Sd.put, List.map_cons, List.map_nil, List.cons_append, List.nil_append, List.length_cons, List.length_nil, List.replicate, view, DL.settle, bindO, gIsInt, gIsBool, gIsTup, gIsStr, gIsLst, dRet, dRetN, dC, outR, dNext, dOp, dUn, gIsN, gNotN, gGe, gLe, gGt, gLt, gI, dAndV, dOrV, dNotV, rB, rI', isNonD, dCall, dCons, dNil, guardB, dSet, dStore, dTup, dTupK, dLst, fewL, dIf, dChain, dDrop, Bool.not_true, Bool.not_false, List.append_nil, Nat.reduceAdd, Nat.reduceSub, Nat.reduceBEq, beq_self_eq_true, dPar, dUA, unAl, DL.storeAll, dUnp, patStore, DL.putAll, Sd.wipe, wipeE, putO, clrN, gNe_ii, gEq_ii, gNe_l0, gEq_l0, gNe_t0, gEq_t0, gLen_t, gLen_l, gIx_t, gIx_l, atI_0, atI_1, atI_2, atI_3, atI_4, Option.map_some]
      rw [decide_eq_true (show (0 : Int) < (b : Int) by omega), decide_eq_true (show (b : Int) ≠ 0 by omega), fmod_nat]
      exact hn
theorem common_ok {a b : Nat} (q : Q (.v (.int (Nat.gcd a b))) g) : den_common [.int a, .int b] g Q E :=
  common_loop b a _ q

def tupl : D → Option (List D)
  | .lds l => some l
  | _ => none
theorem tupl_some {d : D} {l : List D} (h : tupl d = some l) : d = .lds l := by
  cases d <;> cases h <;> rfl
theorem tupl_gd {d : D} {l : List D} (h : tupl d = some l) (k : gd d = true) : gdL l = true := by
  rw [tupl_some h] at k
  simpa [gd] using k
def gcdD : D → D → Nat
  | .int i, .int j => Nat.gcd i.toNat j.toNat
  | _, _ => 0
def fracD (d : D) (most : Int) : Bool := match tupl d with
  | some l => ((l.length : Int) == 2) && (l.all fun x => whD x 1 most) && ((gcdD (l.getD 0 .non) (l.getD 1 .non) : Int) == 1)
  | none => false
theorem whD_some {d : D} {lo hi : Int} (h : whD d lo hi = true) : ∃ i, d = .int i ∧ lo ≤ i ∧ i ≤ hi := by
  cases d with
  | int i =>
    simp only [whD, Bool.and_eq_true, decide_eq_true_eq] at h
    exact ⟨i, rfl, h⟩
  | _ => cases h
theorem is_fraction_ok {d : D} (h : gd d = true) (q : Q (.v (.bl (fracD d 10000))) g) : den_is_fraction [d, .int 10000] g Q E := by
  cases ht : tupl d with
  | none =>
    have e : fracD d 10000 = false := by unfold fracD; rw [ht]
    rw [e] at q
    cases d <;> first | (cases ht; done) | exact q | (simp [gd] at h; done)
  | some l =>
    have hl := tupl_gd ht h
    have e : fracD d 10000 = (((l.length : Int) == 2) && (l.all fun x => whD x 1 10000) && ((gcdD (l.getD 0 .non) (l.getD 1 .non) : Int) == 1)) := by unfold fracD; rw [ht]
    rw [e] at q
    by_cases h2 : l.length = 2
    · have e2 : ((l.length : Int) == 2) = true := by rw [h2]; rfl
      rw [e2] at q
      obtain ⟨a, b, rfl⟩ : ∃ a b, l = [a, b] := match l, h2 with | [a, b], _ => ⟨a, b, rfl⟩
      cases tupl_some ht
      ( simp only [den_is_fraction, body_is_fraction, dLc, dSeqI, seqOf, dFn, dSeq, dIfS, dOr, dAnd, dNot, dB, dIsT, dVar, startD, nthO, setN, Sd.put, List.map_cons, List.map_nil, List.cons_append, List.nil_append, List.length_cons, List.length_nil, List.replicate, view, DL.settle, bindO, gIsInt, gIsBool, gIsTup, gIsStr, gIsLst, dRet, dRetN, dC, outR, dNext, dOp, dUn, gIsN, gNotN, gGe, gLe, gGt, gLt, gI, dAndV, dOrV, dNotV, rB, rI', isNonD, dCall, dCons, dNil, guardB, dSet, dStore, dTup, dTupK, dLst, fewL, dIf, dChain, dDrop, Bool.not_true, Bool.not_false, List.append_nil, Nat.reduceAdd, Nat.reduceSub, Nat.reduceBEq, beq_self_eq_true, dPar, dUA, unAl, DL.storeAll, dUnp, patStore, DL.putAll, Sd.wipe, wipeE, putO, clrN, gNe_ii, gEq_ii, gNe_l0, gEq_l0, gNe_t0, gEq_t0, gLen_t, gLen_l, gIx_t, gIx_l, atI_0, atI_1, atI_2, atI_3, atI_4, Option.map_some]
        refine lc_map (fun x => .bl (whD x 1 10000)) (fun _ => rfl) (fun x hx Q1 E1 q1 => by
          simp only [dFn, dSeq, dIfS, dOr, dAnd, dNot, dB, dIsT, dVar, startD, nthO, setN, Sd.put, List.map_cons, List.map_nil, List.cons_append, List.nil_append, List.length_cons, List.length_nil, List.replicate, view, DL.settle, bindO, gIsInt, gIsBool, gIsTup, gIsStr, gIsLst, dRet, dRetN, dC, outR, dNext, dOp, dUn, gIsN, gNotN, gGe, gLe, gGt, gLt, gI, dAndV, dOrV, dNotV, rB, rI', isNonD, dCall, dCons, dNil, guardB, dSet, dStore, dTup, dTupK, dLst, fewL, dIf, dChain, dDrop, Bool.not_true, Bool.not_false, List.append_nil, Nat.reduceAdd, Nat.reduceSub, Nat.reduceBEq, beq_self_eq_true, dPar, dUA, unAl, DL.storeAll, dUnp, patStore, DL.putAll, Sd.wipe, wipeE, putO, clrN, gNe_ii, gEq_ii, gNe_l0, gEq_l0, gNe_t0, gEq_t0, gLen_t, gLen_l, gIx_t, gIx_l, atI_0, atI_1, atI_2, atI_3, atI_4, Option.map_some]
          exact is_whole_ok (gdL_mem hl hx) q1) ?_
        simp only [gAll_map, bindO]
        cases ha : ([a, b].all fun x => whD x 1 10000) with
        | false =>
          rw [ha] at q
          exact q
        | true =>
          rw [ha] at q
          simp only [List.all_cons, List.all_nil, Bool.and_true, Bool.and_eq_true] at ha
          obtain ⟨i, rfl, i0, i1⟩ := whD_some ha.1
          obtain ⟨j, rfl, j0, j1⟩ := whD_some ha.2
          obtain ⟨i, rfl⟩ := Int.eq_ofNat_of_zero_le (by omega : 0 ≤ i)
          obtain ⟨j, rfl⟩ := Int.eq_ofNat_of_zero_le (by omega : 0 ≤ j)
          exact common_ok q)
    · have e2 : ((l.length : Int) == 2) = false := by simp; omega
      rw [e2] at q
      cases tupl_some ht
      ( simp only [den_is_fraction, body_is_fraction, dFn, dSeq, dIfS, dOr, dAnd, dNot, dB, dIsT, dVar, startD, nthO, setN, Sd.put, List.map_cons, List.map_nil, List.cons_append, List.nil_append, List.length_cons, List.length_nil, List.replicate, view, DL.settle, bindO, gIsInt, gIsBool, gIsTup, gIsStr, gIsLst, dRet, dRetN, dC, outR, dNext, dOp, dUn, gIsN, gNotN, gGe, gLe, gGt, gLt, gI, dAndV, dOrV, dNotV, rB, rI', isNonD, dCall, dCons, dNil, guardB, dSet, dStore, dTup, dTupK, dLst, fewL, dIf, dChain, dDrop, Bool.not_true, Bool.not_false, List.append_nil, Nat.reduceAdd, Nat.reduceSub, Nat.reduceBEq, beq_self_eq_true, dPar, dUA, unAl, DL.storeAll, dUnp, patStore, DL.putAll, Sd.wipe, wipeE, putO, clrN, gNe_ii, gEq_ii, gNe_l0, gEq_l0, gNe_t0, gEq_t0, gLen_t, gLen_l, gIx_t, gIx_l, atI_0, atI_1, atI_2, atI_3, atI_4, Option.map_some]
        rw [e2]
        exact q)
/-! loads -/
def zD : D → Bool
  | .int i => i == 0
  | _ => false
def loadsD (d : D) : Bool := match tupl d with
  | some l => decide ((2 : Int) ≤ (l.length : Int)) && decide ((l.length : Int) ≤ 6) && (l.all fun x => whD x 0 3) && zD (l.getD 0 .non) && decide (((l.filter zD).length : Int) ≤ 3)
  | none => false
theorem atI_zero {x : D} {r : List D} : atI (x :: r) 0 = some x := atI_nat0 (k := 0) rfl
theorem whD_zero {x : D} {hi : Int} (h : whD x 0 hi = true) : gEq x (.int 0) = rB (zD x) := by
  obtain ⟨i, rfl, _, _⟩ := whD_some h
  rfl
theorem whD_zne {x : D} {hi : Int} (h : whD x 0 hi = true) : gNe x (.int 0) = rB (!zD x) := by
  obtain ⟨i, rfl, _, _⟩ := whD_some h
  rfl
theorem are_loads_ok {d : D} (h : gd d = true) (q : Q (.v (.bl (loadsD d))) g) : den_are_loads [d] g Q E := by
  cases ht : tupl d with
  | none =>
    have e : loadsD d = false := by unfold loadsD; rw [ht]
    rw [e] at q
    cases d <;> first | (cases ht; done) | exact q | (simp [gd] at h; done)
  | some l =>
    have hl := tupl_gd ht h
    have e : loadsD d = (decide ((2 : Int) ≤ (l.length : Int)) && decide ((l.length : Int) ≤ 6) && (l.all fun x => whD x 0 3) && zD (l.getD 0 .non) && decide (((l.filter zD).length : Int) ≤ 3)) := by unfold loadsD; rw [ht]
    rw [e] at q
    cases tupl_some ht
    simp only [den_are_loads, body_are_loads, dLc, dSeqI, seqOf, dFn, dSeq, dIfS, dOr, dAnd, dNot, dB, dIsT, dVar, startD, nthO, setN, Sd.put, List.map_cons, List.map_nil, List.cons_append, List.nil_append, List.length_cons, List.length_nil, List.replicate, view, DL.settle, bindO, gIsInt, gIsBool, gIsTup, gIsStr, gIsLst, dRet, dRetN, dC, outR, dNext, dOp, dUn, gIsN, gNotN, gGe, gLe, gGt, gLt, gI, dAndV, dOrV, dNotV, rB, rI', isNonD, dCall, dCons, dNil, guardB, dSet, dStore, dTup, dTupK, dLst, fewL, dIf, dChain, dDrop, Bool.not_true, Bool.not_false, List.append_nil, Nat.reduceAdd, Nat.reduceSub, Nat.reduceBEq, beq_self_eq_true, dPar, dUA, unAl, DL.storeAll, dUnp, patStore, DL.putAll, Sd.wipe, wipeE, putO, clrN, gNe_ii, gEq_ii, gNe_l0, gEq_l0, gNe_t0, gEq_t0, gLen_t, gLen_l, gIx_t, gIx_l, atI_0, atI_1, atI_2, atI_3, atI_4, Option.map_some]
    cases h2 : decide ((2 : Int) ≤ (l.length : Int)) with
    | false => rw [h2] at q; exact q
    | true =>
      rw [h2] at q
      cases h6 : decide ((l.length : Int) ≤ 6) with
      | false => rw [h6] at q; exact q
      | true =>
        rw [h6] at q
        simp only [dFn, dSeq, dIfS, dOr, dAnd, dNot, dB, dIsT, dVar, startD, nthO, setN, Sd.put, List.map_cons, List.map_nil, List.cons_append, List.nil_append, List.length_cons, List.length_nil, List.replicate, view, DL.settle, bindO, gIsInt, gIsBool, gIsTup, gIsStr, gIsLst, dRet, dRetN, dC, outR, dNext, dOp, dUn, gIsN, gNotN, gGe, gLe, gGt, gLt, gI, dAndV, dOrV, dNotV, rB, rI', isNonD, dCall, dCons, dNil, guardB, dSet, dStore, dTup, dTupK, dLst, fewL, dIf, dChain, dDrop, Bool.not_true, Bool.not_false, List.append_nil, Nat.reduceAdd, Nat.reduceSub, Nat.reduceBEq, beq_self_eq_true, dPar, dUA, unAl, DL.storeAll, dUnp, patStore, DL.putAll, Sd.wipe, wipeE, putO, clrN, gNe_ii, gEq_ii, gNe_l0, gEq_l0, gNe_t0, gEq_t0, gLen_t, gLen_l, gIx_t, gIx_l, atI_0, atI_1, atI_2, atI_3, atI_4, Option.map_some]
        refine lc_map (fun x => .bl (whD x 0 3)) (fun _ => rfl) (fun x hx Q1 E1 q1 => ?_) ?_
        · simp only [dFn, dSeq, dIfS, dOr, dAnd, dNot, dB, dIsT, dVar, startD, nthO, setN, Sd.put, List.map_cons, List.map_nil, List.cons_append, List.nil_append, List.length_cons, List.length_nil, List.replicate, view, DL.settle, bindO, gIsInt, gIsBool, gIsTup, gIsStr, gIsLst, dRet, dRetN, dC, outR, dNext, dOp, dUn, gIsN, gNotN, gGe, gLe, gGt, gLt, gI, dAndV, dOrV, dNotV, rB, rI', isNonD, dCall, dCons, dNil, guardB, dSet, dStore, dTup, dTupK, dLst, fewL, dIf, dChain, dDrop, Bool.not_true, Bool.not_false, List.append_nil, Nat.reduceAdd, Nat.reduceSub, Nat.reduceBEq, beq_self_eq_true, dPar, dUA, unAl, DL.storeAll, dUnp, patStore, DL.putAll, Sd.wipe, wipeE, putO, clrN, gNe_ii, gEq_ii, gNe_l0, gEq_l0, gNe_t0, gEq_t0, gLen_t, gLen_l, gIx_t, gIx_l, atI_0, atI_1, atI_2, atI_3, atI_4, Option.map_some]
          exact is_whole_ok (gdL_mem hl hx) q1
        simp only [gAll_map, bindO]
        cases ha : (l.all fun x => whD x 0 3) with
        | false => rw [ha] at q; exact q
        | true =>
          rw [ha] at q
          obtain ⟨x, r, rfl⟩ : ∃ x r, l = x :: r := by
            cases l with
            | nil => simp at h2
            | cons x r => exact ⟨x, r, rfl⟩
          have hw := List.all_eq_true.mp ha
          have hx := hw x (List.mem_cons_self ..)
          simp only [dFn, dSeq, dIfS, dOr, dAnd, dNot, dB, dIsT, dVar, startD, nthO, setN, Sd.put, List.map_cons, List.map_nil, List.cons_append, List.nil_append, List.length_cons, List.length_nil, List.replicate, view, DL.settle, bindO, gIsInt, gIsBool, gIsTup, gIsStr, gIsLst, dRet, dRetN, dC, outR, dNext, dOp, dUn, gIsN, gNotN, gGe, gLe, gGt, gLt, gI, dAndV, dOrV, dNotV, rB, rI', isNonD, dCall, dCons, dNil, guardB, dSet, dStore, dTup, dTupK, dLst, fewL, dIf, dChain, dDrop, Bool.not_true, Bool.not_false, List.append_nil, Nat.reduceAdd, Nat.reduceSub, Nat.reduceBEq, beq_self_eq_true, dPar, dUA, unAl, DL.storeAll, dUnp, patStore, DL.putAll, Sd.wipe, wipeE, putO, clrN, gNe_ii, gEq_ii, gNe_l0, gEq_l0, gNe_t0, gEq_t0, gLen_t, gLen_l, gIx_t, gIx_l, atI_0, atI_1, atI_2, atI_3, atI_4, Option.map_some, whD_zne hx]
          cases hz : zD x with
          | false =>
            have : zD ((x :: r).getD 0 .non) = false := hz
            rw [this] at q
            exact q
          | true =>
            have : zD ((x :: r).getD 0 .non) = true := hz
            rw [this] at q
            simp only [dFn, dSeq, dIfS, dOr, dAnd, dNot, dB, dIsT, dVar, startD, nthO, setN, Sd.put, List.map_cons, List.map_nil, List.cons_append, List.nil_append, List.length_cons, List.length_nil, List.replicate, view, DL.settle, bindO, gIsInt, gIsBool, gIsTup, gIsStr, gIsLst, dRet, dRetN, dC, outR, dNext, dOp, dUn, gIsN, gNotN, gGe, gLe, gGt, gLt, gI, dAndV, dOrV, dNotV, rB, rI', isNonD, dCall, dCons, dNil, guardB, dSet, dStore, dTup, dTupK, dLst, fewL, dIf, dChain, dDrop, Bool.not_true, Bool.not_false, List.append_nil, Nat.reduceAdd, Nat.reduceSub, Nat.reduceBEq, beq_self_eq_true, dPar, dUA, unAl, DL.storeAll, dUnp, patStore, DL.putAll, Sd.wipe, wipeE, putO, clrN, gNe_ii, gEq_ii, gNe_l0, gEq_l0, gNe_t0, gEq_t0, gLen_t, gLen_l, gIx_t, gIx_l, atI_0, atI_1, atI_2, atI_3, atI_4, Option.map_some]
            refine lc_gen (fun y => ⟨[some (.v (.lds (x :: r))), some (.v y)], g⟩) zD (fun _ => .int 1) (x :: r) (fun _ _ => rfl) (fun _ _ => rfl) (fun y hy Q1 E1 q1 => ?_) (fun y hy _ Q1 E1 q1 => q1) [] ?_
            · simp only [dFn, dSeq, dIfS, dOr, dAnd, dNot, dB, dIsT, dVar, startD, nthO, setN, Sd.put, List.map_cons, List.map_nil, List.cons_append, List.nil_append, List.length_cons, List.length_nil, List.replicate, view, DL.settle, bindO, gIsInt, gIsBool, gIsTup, gIsStr, gIsLst, dRet, dRetN, dC, outR, dNext, dOp, dUn, gIsN, gNotN, gGe, gLe, gGt, gLt, gI, dAndV, dOrV, dNotV, rB, rI', isNonD, dCall, dCons, dNil, guardB, dSet, dStore, dTup, dTupK, dLst, fewL, dIf, dChain, dDrop, Bool.not_true, Bool.not_false, List.append_nil, Nat.reduceAdd, Nat.reduceSub, Nat.reduceBEq, beq_self_eq_true, dPar, dUA, unAl, DL.storeAll, dUnp, patStore, DL.putAll, Sd.wipe, wipeE, putO, clrN, gNe_ii, gEq_ii, gNe_l0, gEq_l0, gNe_t0, gEq_t0, gLen_t, gLen_l, gIx_t, gIx_l, atI_0, atI_1, atI_2, atI_3, atI_4, Option.map_some, whD_zero (hw y hy)]
              exact q1
            · simp only [dFn, dSeq, dIfS, dOr, dAnd, dNot, dB, dIsT, dVar, startD, nthO, setN, Sd.put, List.map_cons, List.map_nil, List.cons_append, List.nil_append, List.length_cons, List.length_nil, List.replicate, view, DL.settle, bindO, gIsInt, gIsBool, gIsTup, gIsStr, gIsLst, dRet, dRetN, dC, outR, dNext, dOp, dUn, gIsN, gNotN, gGe, gLe, gGt, gLt, gI, dAndV, dOrV, dNotV, rB, rI', isNonD, dCall, dCons, dNil, guardB, dSet, dStore, dTup, dTupK, dLst, fewL, dIf, dChain, dDrop, Bool.not_true, Bool.not_false, List.append_nil, Nat.reduceAdd, Nat.reduceSub, Nat.reduceBEq, beq_self_eq_true, dPar, dUA, unAl, DL.storeAll, dUnp, patStore, DL.putAll, Sd.wipe, wipeE, putO, clrN, gNe_ii, gEq_ii, gNe_l0, gEq_l0, gNe_t0, gEq_t0, gLen_t, gLen_l, gIx_t, gIx_l, atI_0, atI_1, atI_2, atI_3, atI_4, Option.map_some, List.length_map]
              exact q
/-! moves -/
def mostD (b c : D) : Bool := match b with
  | .int i => whD c i 1000
  | _ => false
def moveL (many : Int) (a b c e : D) : Bool := whD a 0 (many - 1) && whD e 0 (many - 1) && !(eqD a e) && whD b 0 1000 && (isNonD c || mostD b c)
def moveD (many : Int) (d : D) : Bool := match tupl d with
  | some [a, b, c, e] => moveL many a b c e
  | _ => false
theorem moveD_ne {many : Int} {l : List D} (h : ¬ l.length = 4) : moveD many (.lds l) = false := by
  match l with
  | [] => rfl
  | [_] => rfl
  | [_, _] => rfl
  | [_, _, _] => rfl
  | [_, _, _, _] => exact absurd rfl h
  | _ :: _ :: _ :: _ :: _ :: _ => rfl
theorem gEq_wh {x y : D} {lo hi : Int} (h : whD x lo hi = true) (k : whD y lo hi = true) : gEq x y = rB (eqD x y) := by
  obtain ⟨i, rfl, _, _⟩ := whD_some h
  obtain ⟨j, rfl, _, _⟩ := whD_some k
  rfl
theorem gIsN_gd {c : D} (h : gd c = true) : gIsN c .non = rB (isNonD c) := by cases c <;> rfl
theorem is_move_ok {d : D} {many : Int} (h : gd d = true) (q : Q (.v (.bl (moveD many d))) g) : den_is_move_rigs [.int many, d] g Q E := by
  cases ht : tupl d with
  | none =>
    have e : moveD many d = false := by unfold moveD; rw [ht]
    rw [e] at q
    cases d <;> first | (cases ht; done) | exact q | (simp [gd] at h; done)
  | some l =>
    have hl := tupl_gd ht h
    cases tupl_some ht
    by_cases h4 : l.length = 4
    · obtain ⟨a, b, c, e, rfl⟩ : ∃ a b c e, l = [a, b, c, e] := match l, h4 with | [a, b, c, e], _ => ⟨a, b, c, e, rfl⟩
      have q : Q (.v (.bl (moveL many a b c e))) g := q
      simp only [gdL, Bool.and_true, Bool.and_eq_true] at hl
      obtain ⟨ha, hb, hc, he⟩ := hl
      simp only [den_is_move_rigs, body_is_move_rigs, DL.gSub, dFn, dSeq, dIfS, dOr, dAnd, dNot, dB, dIsT, dVar, startD, nthO, setN, Sd.put, List.map_cons, List.map_nil, List.cons_append, List.nil_append, List.length_cons, List.length_nil, List.replicate, view, DL.settle, bindO, gIsInt, gIsBool, gIsTup, gIsStr, gIsLst, dRet, dRetN, dC, outR, dNext, dOp, dUn, gIsN, gNotN, gGe, gLe, gGt, gLt, gI, dAndV, dOrV, dNotV, rB, rI', isNonD, dCall, dCons, dNil, guardB, dSet, dStore, dTup, dTupK, dLst, fewL, dIf, dChain, dDrop, Bool.not_true, Bool.not_false, List.append_nil, Nat.reduceAdd, Nat.reduceSub, Nat.reduceBEq, beq_self_eq_true, dPar, dUA, unAl, DL.storeAll, dUnp, patStore, DL.putAll, Sd.wipe, wipeE, putO, clrN, gNe_ii, gEq_ii, gNe_l0, gEq_l0, gNe_t0, gEq_t0, gLen_t, gLen_l, gIx_t, gIx_l, atI_0, atI_1, atI_2, atI_3, atI_4, Option.map_some]
      refine is_whole_ok ha ?_
      unfold moveL at q
      cases w1 : whD a 0 (many - 1) with
      | false => rw [w1] at q; exact q
      | true =>
        rw [w1] at q
        simp only [dFn, dSeq, dIfS, dOr, dAnd, dNot, dB, dIsT, dVar, startD, nthO, setN, Sd.put, List.map_cons, List.map_nil, List.cons_append, List.nil_append, List.length_cons, List.length_nil, List.replicate, view, DL.settle, bindO, gIsInt, gIsBool, gIsTup, gIsStr, gIsLst, dRet, dRetN, dC, outR, dNext, dOp, dUn, gIsN, gNotN, gGe, gLe, gGt, gLt, gI, dAndV, dOrV, dNotV, rB, rI', isNonD, dCall, dCons, dNil, guardB, dSet, dStore, dTup, dTupK, dLst, fewL, dIf, dChain, dDrop, Bool.not_true, Bool.not_false, List.append_nil, Nat.reduceAdd, Nat.reduceSub, Nat.reduceBEq, beq_self_eq_true, dPar, dUA, unAl, DL.storeAll, dUnp, patStore, DL.putAll, Sd.wipe, wipeE, putO, clrN, gNe_ii, gEq_ii, gNe_l0, gEq_l0, gNe_t0, gEq_t0, gLen_t, gLen_l, gIx_t, gIx_l, atI_0, atI_1, atI_2, atI_3, atI_4, Option.map_some]
        refine is_whole_ok he ?_
        cases w2 : whD e 0 (many - 1) with
        | false => rw [w2] at q; exact q
        | true =>
          rw [w2] at q
          simp only [gEq_wh w1 w2, dFn, dSeq, dIfS, dOr, dAnd, dNot, dB, dIsT, dVar, startD, nthO, setN, Sd.put, List.map_cons, List.map_nil, List.cons_append, List.nil_append, List.length_cons, List.length_nil, List.replicate, view, DL.settle, bindO, gIsInt, gIsBool, gIsTup, gIsStr, gIsLst, dRet, dRetN, dC, outR, dNext, dOp, dUn, gIsN, gNotN, gGe, gLe, gGt, gLt, gI, dAndV, dOrV, dNotV, rB, rI', isNonD, dCall, dCons, dNil, guardB, dSet, dStore, dTup, dTupK, dLst, fewL, dIf, dChain, dDrop, Bool.not_true, Bool.not_false, List.append_nil, Nat.reduceAdd, Nat.reduceSub, Nat.reduceBEq, beq_self_eq_true, dPar, dUA, unAl, DL.storeAll, dUnp, patStore, DL.putAll, Sd.wipe, wipeE, putO, clrN, gNe_ii, gEq_ii, gNe_l0, gEq_l0, gNe_t0, gEq_t0, gLen_t, gLen_l, gIx_t, gIx_l, atI_0, atI_1, atI_2, atI_3, atI_4, Option.map_some]
          cases w3 : eqD a e with
          | true => rw [w3] at q; exact q
          | false =>
            rw [w3] at q
            simp only [dFn, dSeq, dIfS, dOr, dAnd, dNot, dB, dIsT, dVar, startD, nthO, setN, Sd.put, List.map_cons, List.map_nil, List.cons_append, List.nil_append, List.length_cons, List.length_nil, List.replicate, view, DL.settle, bindO, gIsInt, gIsBool, gIsTup, gIsStr, gIsLst, dRet, dRetN, dC, outR, dNext, dOp, dUn, gIsN, gNotN, gGe, gLe, gGt, gLt, gI, dAndV, dOrV, dNotV, rB, rI', isNonD, dCall, dCons, dNil, guardB, dSet, dStore, dTup, dTupK, dLst, fewL, dIf, dChain, dDrop, Bool.not_true, Bool.not_false, List.append_nil, Nat.reduceAdd, Nat.reduceSub, Nat.reduceBEq, beq_self_eq_true, dPar, dUA, unAl, DL.storeAll, dUnp, patStore, DL.putAll, Sd.wipe, wipeE, putO, clrN, gNe_ii, gEq_ii, gNe_l0, gEq_l0, gNe_t0, gEq_t0, gLen_t, gLen_l, gIx_t, gIx_l, atI_0, atI_1, atI_2, atI_3, atI_4, Option.map_some]
            refine is_whole_ok hb ?_
            cases w4 : whD b 0 1000 with
            | false => rw [w4] at q; exact q
            | true =>
              rw [w4] at q
              obtain ⟨i, rfl, _, _⟩ := whD_some w4
              cases w5 : isNonD c with
              | true =>
                have : c = .non := by cases c <;> first | rfl | cases w5
                subst this
                exact q
              | false =>
                rw [w5] at q
                cases c <;> first | (cases w5; done) | (simp only [dFn, dSeq, dIfS, dOr, dAnd, dNot, dB, dIsT, dVar, startD, nthO, setN, Sd.put, List.map_cons, List.map_nil, List.cons_append, List.nil_append, List.length_cons, List.length_nil, List.replicate, view, DL.settle, bindO, gIsInt, gIsBool, gIsTup, gIsStr, gIsLst, dRet, dRetN, dC, outR, dNext, dOp, dUn, gIsN, gNotN, gGe, gLe, gGt, gLt, gI, dAndV, dOrV, dNotV, rB, rI', isNonD, dCall, dCons, dNil, guardB, dSet, dStore, dTup, dTupK, dLst, fewL, dIf, dChain, dDrop, Bool.not_true, Bool.not_false, List.append_nil, Nat.reduceAdd, Nat.reduceSub, Nat.reduceBEq, beq_self_eq_true, dPar, dUA, unAl, DL.storeAll, dUnp, patStore, DL.putAll, Sd.wipe, wipeE, putO, clrN, gNe_ii, gEq_ii, gNe_l0, gEq_l0, gNe_t0, gEq_t0, gLen_t, gLen_l, gIx_t, gIx_l, atI_0, atI_1, atI_2, atI_3, atI_4, Option.map_some]; exact is_whole_ok hc q) | (simp [gd] at hc; done)
    · rw [moveD_ne h4] at q
      have e4 : ((l.length : Int) == 4) = false := by simp; omega
      simp only [den_is_move_rigs, body_is_move_rigs, dFn, dSeq, dIfS, dOr, dAnd, dNot, dB, dIsT, dVar, startD, nthO, setN, Sd.put, List.map_cons, List.map_nil, List.cons_append, List.nil_append, List.length_cons, List.length_nil, List.replicate, view, DL.settle, bindO, gIsInt, gIsBool, gIsTup, gIsStr, gIsLst, dRet, dRetN, dC, outR, dNext, dOp, dUn, gIsN, gNotN, gGe, gLe, gGt, gLt, gI, dAndV, dOrV, dNotV, rB, rI', isNonD, dCall, dCons, dNil, guardB, dSet, dStore, dTup, dTupK, dLst, fewL, dIf, dChain, dDrop, Bool.not_true, Bool.not_false, List.append_nil, Nat.reduceAdd, Nat.reduceSub, Nat.reduceBEq, beq_self_eq_true, dPar, dUA, unAl, DL.storeAll, dUnp, patStore, DL.putAll, Sd.wipe, wipeE, putO, clrN, gNe_ii, gEq_ii, gNe_l0, gEq_l0, gNe_t0, gEq_t0, gLen_t, gLen_l, gIx_t, gIx_l, atI_0, atI_1, atI_2, atI_3, atI_4, Option.map_some]
      rw [e4]
      exact q
/-! rigs -/
def firstBad (many : Int) : Nat → List D → Option Nat
  | _, [] => none
  | n, d :: l => if moveD many d then firstBad many (n + 1) l else some n
def plc (s : Str) : D := .lds [.str s]
def faultL (a b c e f : D) : D := match loadsD a, tupl a with
  | true, some al => (match tupl b with
    | some ms => if decide ((1 : Int) ≤ (ms.length : Int)) && decide ((ms.length : Int) ≤ 10) then (match firstBad al.length 0 ms with
        | some k => .lds [.str "moves", .int (k : Nat)]
        | none => if whD c 1 1000 then (if whD e 1 6 then (if fracD f 10000 then .non else plc "sag") else plc "limit") else plc "full") else plc "moves"
    | none => plc "moves")
  | _, _ => plc "loads"
def faultD (d : D) : D := match tupl d with
  | some [a, b, c, e, f] => faultL a b c e f
  | _ => .lds []
theorem faultD_ne {l : List D} (h : ¬ l.length = 5) : faultD (.lds l) = .lds [] := by
  match l with
  | [] => rfl
  | [_] => rfl
  | [_, _] => rfl
  | [_, _, _] => rfl
  | [_, _, _, _] => rfl
  | [_, _, _, _, _] => exact absurd rfl h
  | _ :: _ :: _ :: _ :: _ :: _ :: _ => rfl
theorem loadsD_lds {a : D} (h : loadsD a = true) : ∃ al, a = .lds al := by
  unfold loadsD at h
  cases ht : tupl a with
  | none => rw [ht] at h; cases h
  | some al => exact ⟨al, tupl_some ht⟩
theorem fault_loop {thing : D} {al : List D} (D1 : Dn) (tb : DS) (htb : tb = (dIfS (dNot (dB (dCall den_is_move_rigs 2 [] (dCons (dUn gLen (dOp gIx (dVar 0) (dC (.int 0)))) (dCons (dVar 2) dNil))))) (dRet (dTupK (dCons (dC (.str "moves")) (dCons (dVar 1) dNil)))) dNext))
    {r : List D} (hth : thing = .lds (.lds al :: r)) : ∀ (l : List D) (n : Nat) (x y : Option Sv), gdL l = true → (match firstBad al.length n l with
      | some k => ∀ x y, D1.rt (.v (.lds [.str "moves", .int (k : Nat)])) ⟨[some (.v thing), x, y], g⟩
      | none => ∀ x y, D1.nx ⟨[some (.v thing), x, y], g⟩) → forD (.tu [1, 2]) tb D1 (numbered n l) ⟨[some (.v thing), x, y], g⟩
  | [], n, x, y, _, q => q x y
  | d :: l, n, x, y, h, q => by
    simp only [gdL, Bool.and_eq_true] at h
    show bindO (some (⟨[some (.v thing), some (.v (.int (n : Nat))), some (.v d)], g⟩ : Sd)) _
    subst htb hth
    simp only [dFn, dSeq, dIfS, dOr, dAnd, dNot, dB, dIsT, dVar, startD, nthO, setN, Sd.put, List.map_cons, List.map_nil, List.cons_append, List.nil_append, List.length_cons, List.length_nil, List.replicate, view, DL.settle, bindO, gIsInt, gIsBool, gIsTup, gIsStr, gIsLst, dRet, dRetN, dC, outR, dNext, dOp, dUn, gIsN, gNotN, gGe, gLe, gGt, gLt, gI, dAndV, dOrV, dNotV, rB, rI', isNonD, dCall, dCons, dNil, guardB, dSet, dStore, dTup, dTupK, dLst, fewL, dIf, dChain, dDrop, Bool.not_true, Bool.not_false, List.append_nil, Nat.reduceAdd, Nat.reduceSub, Nat.reduceBEq, beq_self_eq_true, dPar, dUA, unAl, DL.storeAll, dUnp, patStore, DL.putAll, Sd.wipe, wipeE, putO, clrN, gNe_ii, gEq_ii, gNe_l0, gEq_l0, gNe_t0, gEq_t0, gLen_t, gLen_l, gIx_t, gIx_l, atI_0, atI_1, atI_2, atI_3, atI_4, Option.map_some]
    refine is_move_ok h.1 ?_
    unfold firstBad at q
    cases hm : moveD al.length d with
    | true =>
      rw [hm] at q
      simp only [dFn, dSeq, dIfS, dOr, dAnd, dNot, dB, dIsT, dVar, startD, nthO, setN, Sd.put, List.map_cons, List.map_nil, List.cons_append, List.nil_append, List.length_cons, List.length_nil, List.replicate, view, DL.settle, bindO, gIsInt, gIsBool, gIsTup, gIsStr, gIsLst, dRet, dRetN, dC, outR, dNext, dOp, dUn, gIsN, gNotN, gGe, gLe, gGt, gLt, gI, dAndV, dOrV, dNotV, rB, rI', isNonD, dCall, dCons, dNil, guardB, dSet, dStore, dTup, dTupK, dLst, fewL, dIf, dChain, dDrop, Bool.not_true, Bool.not_false, List.append_nil, Nat.reduceAdd, Nat.reduceSub, Nat.reduceBEq, beq_self_eq_true, dPar, dUA, unAl, DL.storeAll, dUnp, patStore, DL.putAll, Sd.wipe, wipeE, putO, clrN, gNe_ii, gEq_ii, gNe_l0, gEq_l0, gNe_t0, gEq_t0, gLen_t, gLen_l, gIx_t, gIx_l, atI_0, atI_1, atI_2, atI_3, atI_4, Option.map_some]
      exact fault_loop D1 _ rfl rfl l (n + 1) _ _ h.2 (by simpa using q)
    | false =>
      rw [hm] at q
      exact q _ _
theorem rig_fault_ok {d : D} (h : gd d = true) (q : Q (.v (faultD d)) g) : den_rig_fault [d] g Q E := by
  cases ht : tupl d with
  | none =>
    have e : faultD d = .lds [] := by unfold faultD; rw [ht]
    rw [e] at q
    cases d <;> first | (cases ht; done) | exact q | (simp [gd] at h; done)
  | some l =>
    have hl := tupl_gd ht h
    cases tupl_some ht
    by_cases h5 : l.length = 5
    · obtain ⟨a, b, c, e, f, rfl⟩ : ∃ a b c e f, l = [a, b, c, e, f] := match l, h5 with | [a, b, c, e, f], _ => ⟨a, b, c, e, f, rfl⟩
      replace q : Q (.v (faultL a b c e f)) g := q
      simp only [gdL, Bool.and_true, Bool.and_eq_true] at hl
      obtain ⟨ha, hb, hc, he, hf⟩ := hl
      simp only [den_rig_fault, body_rig_fault, dFn, dSeq, dIfS, dOr, dAnd, dNot, dB, dIsT, dVar, startD, nthO, setN, Sd.put, List.map_cons, List.map_nil, List.cons_append, List.nil_append, List.length_cons, List.length_nil, List.replicate, view, DL.settle, bindO, gIsInt, gIsBool, gIsTup, gIsStr, gIsLst, dRet, dRetN, dC, outR, dNext, dOp, dUn, gIsN, gNotN, gGe, gLe, gGt, gLt, gI, dAndV, dOrV, dNotV, rB, rI', isNonD, dCall, dCons, dNil, guardB, dSet, dStore, dTup, dTupK, dLst, fewL, dIf, dChain, dDrop, Bool.not_true, Bool.not_false, List.append_nil, Nat.reduceAdd, Nat.reduceSub, Nat.reduceBEq, beq_self_eq_true, dPar, dUA, unAl, DL.storeAll, dUnp, patStore, DL.putAll, Sd.wipe, wipeE, putO, clrN, gNe_ii, gEq_ii, gNe_l0, gEq_l0, gNe_t0, gEq_t0, gLen_t, gLen_l, gIx_t, gIx_l, atI_0, atI_1, atI_2, atI_3, atI_4, Option.map_some]
      refine are_loads_ok ha ?_
      unfold faultL at q
      cases w1 : loadsD a with
      | false => rw [w1] at q; exact q
      | true =>
        rw [w1] at q
        obtain ⟨al, rfl⟩ := loadsD_lds w1
        cases tb : tupl b with
        | none =>
          rw [tb] at q
          cases b <;> first | (cases tb; done) | exact q | (simp [gd] at hb; done)
        | some ms =>
          have hms := tupl_gd tb hb
          rw [tb] at q
          cases tupl_some tb
          simp only [dFn, dSeq, dIfS, dOr, dAnd, dNot, dB, dIsT, dVar, startD, nthO, setN, Sd.put, List.map_cons, List.map_nil, List.cons_append, List.nil_append, List.length_cons, List.length_nil, List.replicate, view, DL.settle, bindO, gIsInt, gIsBool, gIsTup, gIsStr, gIsLst, dRet, dRetN, dC, outR, dNext, dOp, dUn, gIsN, gNotN, gGe, gLe, gGt, gLt, gI, dAndV, dOrV, dNotV, rB, rI', isNonD, dCall, dCons, dNil, guardB, dSet, dStore, dTup, dTupK, dLst, fewL, dIf, dChain, dDrop, Bool.not_true, Bool.not_false, List.append_nil, Nat.reduceAdd, Nat.reduceSub, Nat.reduceBEq, beq_self_eq_true, dPar, dUA, unAl, DL.storeAll, dUnp, patStore, DL.putAll, Sd.wipe, wipeE, putO, clrN, gNe_ii, gEq_ii, gNe_l0, gEq_l0, gNe_t0, gEq_t0, gLen_t, gLen_l, gIx_t, gIx_l, atI_0, atI_1, atI_2, atI_3, atI_4, Option.map_some]
          simp only [tupl] at q
          cases w2 : decide ((1 : Int) ≤ (ms.length : Int)) with
          | false => rw [w2] at q; exact q
          | true =>
            rw [w2] at q
            cases w3 : decide ((ms.length : Int) ≤ 10) with
            | false => rw [w3] at q; exact q
            | true =>
              rw [w3] at q
              simp only [dFn, dSeq, dIfS, dOr, dAnd, dNot, dB, dIsT, dVar, startD, nthO, setN, Sd.put, List.map_cons, List.map_nil, List.cons_append, List.nil_append, List.length_cons, List.length_nil, List.replicate, view, DL.settle, bindO, gIsInt, gIsBool, gIsTup, gIsStr, gIsLst, dRet, dRetN, dC, outR, dNext, dOp, dUn, gIsN, gNotN, gGe, gLe, gGt, gLt, gI, dAndV, dOrV, dNotV, rB, rI', isNonD, dCall, dCons, dNil, guardB, dSet, dStore, dTup, dTupK, dLst, fewL, dIf, dChain, dDrop, Bool.not_true, Bool.not_false, List.append_nil, Nat.reduceAdd, Nat.reduceSub, Nat.reduceBEq, beq_self_eq_true, dPar, dUA, unAl, DL.storeAll, dUnp, patStore, DL.putAll, Sd.wipe, wipeE, putO, clrN, gNe_ii, gEq_ii, gNe_l0, gEq_l0, gNe_t0, gEq_t0, gLen_t, gLen_l, gIx_t, gIx_l, atI_0, atI_1, atI_2, atI_3, atI_4, Option.map_some, dFor, dEnum, seqOf]
              refine fault_loop _ _ rfl rfl ms 0 none none hms ?_
              cases w4 : firstBad al.length 0 ms with
              | some k => intro x y; simp only [w4] at q; exact q
              | none =>
                intro x y
                simp only [w4] at q
                simp only [dFn, dSeq, dIfS, dOr, dAnd, dNot, dB, dIsT, dVar, startD, nthO, setN, Sd.put, List.map_cons, List.map_nil, List.cons_append, List.nil_append, List.length_cons, List.length_nil, List.replicate, view, DL.settle, bindO, gIsInt, gIsBool, gIsTup, gIsStr, gIsLst, dRet, dRetN, dC, outR, dNext, dOp, dUn, gIsN, gNotN, gGe, gLe, gGt, gLt, gI, dAndV, dOrV, dNotV, rB, rI', isNonD, dCall, dCons, dNil, guardB, dSet, dStore, dTup, dTupK, dLst, fewL, dIf, dChain, dDrop, Bool.not_true, Bool.not_false, List.append_nil, Nat.reduceAdd, Nat.reduceSub, Nat.reduceBEq, beq_self_eq_true, dPar, dUA, unAl, DL.storeAll, dUnp, patStore, DL.putAll, Sd.wipe, wipeE, putO, clrN, gNe_ii, gEq_ii, gNe_l0, gEq_l0, gNe_t0, gEq_t0, gLen_t, gLen_l, gIx_t, gIx_l, atI_0, atI_1, atI_2, atI_3, atI_4, Option.map_some]
                refine is_whole_ok hc ?_
                cases w5 : whD c 1 1000 with
                | false => rw [w5] at q; exact q
                | true =>
                  rw [w5] at q
                  simp only [dFn, dSeq, dIfS, dOr, dAnd, dNot, dB, dIsT, dVar, startD, nthO, setN, Sd.put, List.map_cons, List.map_nil, List.cons_append, List.nil_append, List.length_cons, List.length_nil, List.replicate, view, DL.settle, bindO, gIsInt, gIsBool, gIsTup, gIsStr, gIsLst, dRet, dRetN, dC, outR, dNext, dOp, dUn, gIsN, gNotN, gGe, gLe, gGt, gLt, gI, dAndV, dOrV, dNotV, rB, rI', isNonD, dCall, dCons, dNil, guardB, dSet, dStore, dTup, dTupK, dLst, fewL, dIf, dChain, dDrop, Bool.not_true, Bool.not_false, List.append_nil, Nat.reduceAdd, Nat.reduceSub, Nat.reduceBEq, beq_self_eq_true, dPar, dUA, unAl, DL.storeAll, dUnp, patStore, DL.putAll, Sd.wipe, wipeE, putO, clrN, gNe_ii, gEq_ii, gNe_l0, gEq_l0, gNe_t0, gEq_t0, gLen_t, gLen_l, gIx_t, gIx_l, atI_0, atI_1, atI_2, atI_3, atI_4, Option.map_some]
                  refine is_whole_ok he ?_
                  cases w6 : whD e 1 6 with
                  | false => rw [w6] at q; exact q
                  | true =>
                    rw [w6] at q
                    simp only [dFn, dSeq, dIfS, dOr, dAnd, dNot, dB, dIsT, dVar, startD, nthO, setN, Sd.put, List.map_cons, List.map_nil, List.cons_append, List.nil_append, List.length_cons, List.length_nil, List.replicate, view, DL.settle, bindO, gIsInt, gIsBool, gIsTup, gIsStr, gIsLst, dRet, dRetN, dC, outR, dNext, dOp, dUn, gIsN, gNotN, gGe, gLe, gGt, gLt, gI, dAndV, dOrV, dNotV, rB, rI', isNonD, dCall, dCons, dNil, guardB, dSet, dStore, dTup, dTupK, dLst, fewL, dIf, dChain, dDrop, Bool.not_true, Bool.not_false, List.append_nil, Nat.reduceAdd, Nat.reduceSub, Nat.reduceBEq, beq_self_eq_true, dPar, dUA, unAl, DL.storeAll, dUnp, patStore, DL.putAll, Sd.wipe, wipeE, putO, clrN, gNe_ii, gEq_ii, gNe_l0, gEq_l0, gNe_t0, gEq_t0, gLen_t, gLen_l, gIx_t, gIx_l, atI_0, atI_1, atI_2, atI_3, atI_4, Option.map_some]
                    refine is_fraction_ok hf ?_
                    cases w7 : fracD f 10000 with
                    | false => rw [w7] at q; exact q
                    | true => rw [w7] at q; exact q
    · rw [faultD_ne h5] at q
      have e5 : ((l.length : Int) == 5) = false := by simp; omega
      simp only [den_rig_fault, body_rig_fault, dFn, dSeq, dIfS, dOr, dAnd, dNot, dB, dIsT, dVar, startD, nthO, setN, Sd.put, List.map_cons, List.map_nil, List.cons_append, List.nil_append, List.length_cons, List.length_nil, List.replicate, view, DL.settle, bindO, gIsInt, gIsBool, gIsTup, gIsStr, gIsLst, dRet, dRetN, dC, outR, dNext, dOp, dUn, gIsN, gNotN, gGe, gLe, gGt, gLt, gI, dAndV, dOrV, dNotV, rB, rI', isNonD, dCall, dCons, dNil, guardB, dSet, dStore, dTup, dTupK, dLst, fewL, dIf, dChain, dDrop, Bool.not_true, Bool.not_false, List.append_nil, Nat.reduceAdd, Nat.reduceSub, Nat.reduceBEq, beq_self_eq_true, dPar, dUA, unAl, DL.storeAll, dUnp, patStore, DL.putAll, Sd.wipe, wipeE, putO, clrN, gNe_ii, gEq_ii, gNe_l0, gEq_l0, gNe_t0, gEq_t0, gLen_t, gLen_l, gIx_t, gIx_l, atI_0, atI_1, atI_2, atI_3, atI_4, Option.map_some]
      rw [e5]
      exact q
/-! right things -/
theorem faultD_plc (d : D) : faultD d = .non ∨ ∃ l, faultD d = .lds l ∧ okE 64 (.lds l) = true := by
  have p : ∀ s, PyData.strOk s = true → okE 64 (plc s) = true := fun s h => by
    show okE 64 (D.lds [.str s]) = true
    simp only [okE, okEL, h, Bool.and_self]
  unfold faultD
  split
  · unfold faultL
    split
    · split
      · split
        · split
          · exact .inr ⟨_, rfl, by simp only [okE, okEL, Bool.and_self]; decide +kernel⟩
          · split
            · split
              · split
                · exact .inl rfl
                · exact .inr ⟨_, rfl, p _ (by decide +kernel)⟩
              · exact .inr ⟨_, rfl, p _ (by decide +kernel)⟩
            · exact .inr ⟨_, rfl, p _ (by decide +kernel)⟩
        · exact .inr ⟨_, rfl, p _ (by decide +kernel)⟩
      · exact .inr ⟨_, rfl, p _ (by decide +kernel)⟩
    · exact .inr ⟨_, rfl, p _ (by decide +kernel)⟩
  · exact .inr ⟨_, rfl, by decide +kernel⟩
theorem need_rig_ok {d : D} (h : gd d = true) (q : match faultD d with | .non => Q (.v d) g | x => E ⟨0, x⟩ g) : den_need_rig [d] g Q E := by
  simp only [den_need_rig, body_need_rig, dFn, dSeq, dIfS, dOr, dAnd, dNot, dB, dIsT, dVar, startD, nthO, setN, Sd.put, List.map_cons, List.map_nil, List.cons_append, List.nil_append, List.length_cons, List.length_nil, List.replicate, view, DL.settle, bindO, gIsInt, gIsBool, gIsTup, gIsStr, gIsLst, dRet, dRetN, dC, outR, dNext, dOp, dUn, gIsN, gNotN, gGe, gLe, gGt, gLt, gI, dAndV, dOrV, dNotV, rB, rI', isNonD, dCall, dCons, dNil, guardB, dSet, dStore, dTup, dTupK, dLst, fewL, dIf, dChain, dDrop, Bool.not_true, Bool.not_false, List.append_nil, Nat.reduceAdd, Nat.reduceSub, Nat.reduceBEq, beq_self_eq_true, dPar, dUA, unAl, DL.storeAll, dUnp, patStore, DL.putAll, Sd.wipe, wipeE, putO, clrN, gNe_ii, gEq_ii, gNe_l0, gEq_l0, gNe_t0, gEq_t0, gLen_t, gLen_l, gIx_t, gIx_l, atI_0, atI_1, atI_2, atI_3, atI_4, Option.map_some, dRaise]
  refine rig_fault_ok h ?_
  rcases faultD_plc d with e | ⟨l, e, _⟩
  · rw [e] at q ⊢; exact q
  · rw [e] at q ⊢; exact q
end

/-! ### drawn rigs -/
structure Mv where
  b : Int
  l : Int
  m : Option Int
  e : Int
structure Rg where
  loads : List Int
  moves : List Mv
  full : Int
  limit : Int
  st : Int
  sb : Int
def optD : Option Int → D
  | none => .non
  | some i => .int i
def mvD (m : Mv) : D := .lds [.int m.b, .int m.l, optD m.m, .int m.e]
def loadsT (ns : List Int) : D := .lds (ns.map D.int)
def rgD (r : Rg) : D := .lds [loadsT r.loads, .lds (r.moves.map mvD), .int r.full, .int r.limit, .lds [.int r.st, .int r.sb]]
structure LoadsN (ns : List Int) : Prop where
  two : 2 ≤ ns.length
  six : ns.length ≤ 6
  rng : ∀ x ∈ ns, 0 ≤ x ∧ x ≤ 3
  hd : ns.head? = some 0
  idle : ns.count 0 ≤ 3
structure MvN (many : Int) (m : Mv) : Prop where
  b0 : 0 ≤ m.b
  b1 : m.b < many
  e0 : 0 ≤ m.e
  e1 : m.e < many
  ne : m.b ≠ m.e
  l0 : 0 ≤ m.l
  l1 : m.l ≤ 1000
  m1 : ∀ x, m.m = some x → m.l ≤ x ∧ x ≤ 1000
structure RgN (r : Rg) : Prop where
  loads : LoadsN r.loads
  some_ : 1 ≤ r.moves.length
  ten : r.moves.length ≤ 10
  moves : ∀ m ∈ r.moves, MvN r.loads.length m
  f0 : 1 ≤ r.full
  f1 : r.full ≤ 1000
  l0 : 1 ≤ r.limit
  l1 : r.limit ≤ 6
  s0 : 1 ≤ r.st
  s1 : r.st ≤ 10000
  b0 : 1 ≤ r.sb
  b1 : r.sb ≤ 10000
  cop : Nat.gcd r.st.toNat r.sb.toNat = 1
/-- what is drawn besides -/
structure RgDr (r : Rg) : Prop where
  n : RgN r
  five : r.loads.length ≤ 5
  seven : r.moves.length ≤ 7
  lim : 4 < r.loads.length → r.limit ≤ 4 - (if 2 < r.loads.count 0 then 1 else 0)
  sag : (r.st, r.sb) ∈ [((10 : Int), (1 : Int)), (20, 1), (15, 2), (5, 1), (1, 3)]
section
variable {g : Gst} {Q : Rv → Gst → Prop} {E : Xd → Gst → Prop}
theorem law_loads_dr (q : ∀ ns, LoadsN ns → ns.length ≤ 5 → Q (.v (loadsT ns)) g) : den__law_loads [.dr] g Q E := by
  simp only [den__law_loads, body__law_loads, dFn, dSeq, dIfS, dOr, dAnd, dNot, dB, dIsT, dVar, startD, nthO, setN, Sd.put, List.map_cons, List.map_nil, List.cons_append, List.nil_append, List.length_cons, List.length_nil, List.replicate, view, DL.settle, bindO, gIsInt, gIsBool, gIsTup, gIsStr, gIsLst, dRet, dRetN, dC, outR, dNext, dOp, dUn, gIsN, gNotN, gGe, gLe, gGt, gLt, gI, dAndV, dOrV, dNotV, rB, rI', isNonD, dCall, dCons, dNil, guardB, dSet, dStore, dTup, dTupK, dLst, fewL, dIf, dChain, dDrop, Bool.not_true, Bool.not_false, List.append_nil, Nat.reduceAdd, Nat.reduceSub, Nat.reduceBEq, beq_self_eq_true, dPar, dUA, unAl, DL.storeAll, dUnp, patStore, DL.putAll, Sd.wipe, wipeE, putO, clrN, gNe_ii, gEq_ii, gNe_l0, gEq_l0, gNe_t0, gEq_t0, gLen_t, gLen_l, gIx_t, gIx_l, atI_0, atI_1, atI_2, atI_3, atI_4, Option.map_some, dFor, dRng1, DL.intD]
  refine next_ok (by decide) (by decide) fun i h0 h1 => ?_
  simp only [gAdd, dFn, dSeq, dIfS, dOr, dAnd, dNot, dB, dIsT, dVar, startD, nthO, setN, Sd.put, List.map_cons, List.map_nil, List.cons_append, List.nil_append, List.length_cons, List.length_nil, List.replicate, view, DL.settle, bindO, gIsInt, gIsBool, gIsTup, gIsStr, gIsLst, dRet, dRetN, dC, outR, dNext, dOp, dUn, gIsN, gNotN, gGe, gLe, gGt, gLt, gI, dAndV, dOrV, dNotV, rB, rI', isNonD, dCall, dCons, dNil, guardB, dSet, dStore, dTup, dTupK, dLst, fewL, dIf, dChain, dDrop, Bool.not_true, Bool.not_false, List.append_nil, Nat.reduceAdd, Nat.reduceSub, Nat.reduceBEq, beq_self_eq_true, dPar, dUA, unAl, DL.storeAll, dUnp, patStore, DL.putAll, Sd.wipe, wipeE, putO, clrN, gNe_ii, gEq_ii, gNe_l0, gEq_l0, gNe_t0, gEq_t0, gLen_t, gLen_l, gIx_t, gIx_l, atI_0, atI_1, atI_2, atI_3, atI_4, Option.map_some]
  have hr : (decide (-16777216 ≤ 1 + i) && decide (1 + i ≤ 16777216)) = true := by
    rw [decide_eq_true (by omega), decide_eq_true (by omega)]; rfl
  rw [hr]
  refine for_gen (fun k s => ∃ ns x2 x3, s = ⟨[some (.v .dr), some (.ol (ns.map D.int)), x2, x3], g⟩ ∧ ns.length = k + 1 ∧ (∀ x ∈ ns, 0 ≤ x ∧ x ≤ 3) ∧ ns.head? = some 0 ∧ ns.count 0 ≤ 3) _ 0 _ ⟨[0], none, none, rfl, rfl, by simp, rfl, by decide⟩ (fun k d s N hl hi hN => ?_) fun s hi => ?_
  · obtain ⟨ns, x2, x3, rfl, hlen, hr, hh, hc⟩ := hi
    obtain ⟨_, hk⟩ := rangeD_get hl
    simp only [dFn, dSeq, dIfS, dOr, dAnd, dNot, dB, dIsT, dVar, startD, nthO, setN, Sd.put, List.map_cons, List.map_nil, List.cons_append, List.nil_append, List.length_cons, List.length_nil, List.replicate, view, DL.settle, bindO, gIsInt, gIsBool, gIsTup, gIsStr, gIsLst, dRet, dRetN, dC, outR, dNext, dOp, dUn, gIsN, gNotN, gGe, gLe, gGt, gLt, gI, dAndV, dOrV, dNotV, rB, rI', isNonD, dCall, dCons, dNil, guardB, dSet, dStore, dTup, dTupK, dLst, fewL, dIf, dChain, dDrop, Bool.not_true, Bool.not_false, List.append_nil, Nat.reduceAdd, Nat.reduceSub, Nat.reduceBEq, beq_self_eq_true, dPar, dUA, unAl, DL.storeAll, dUnp, patStore, DL.putAll, Sd.wipe, wipeE, putO, clrN, gNe_ii, gEq_ii, gNe_l0, gEq_l0, gNe_t0, gEq_t0, gLen_t, gLen_l, gIx_t, gIx_l, atI_0, atI_1, atI_2, atI_3, atI_4, Option.map_some]
    refine next_ok (by decide) (by decide) fun j j0 j1 => ?_
    obtain ⟨x, hx, ex⟩ := gIx_mem (l := [D.int 0, .int 1, .int 1, .int 2, .int 3]) j0 (by simpa using j1)
    simp only [ex, dFn, dSeq, dIfS, dOr, dAnd, dNot, dB, dIsT, dVar, startD, nthO, setN, Sd.put, List.map_cons, List.map_nil, List.cons_append, List.nil_append, List.length_cons, List.length_nil, List.replicate, view, DL.settle, bindO, gIsInt, gIsBool, gIsTup, gIsStr, gIsLst, dRet, dRetN, dC, outR, dNext, dOp, dUn, gIsN, gNotN, gGe, gLe, gGt, gLt, gI, dAndV, dOrV, dNotV, rB, rI', isNonD, dCall, dCons, dNil, guardB, dSet, dStore, dTup, dTupK, dLst, fewL, dIf, dChain, dDrop, Bool.not_true, Bool.not_false, List.append_nil, Nat.reduceAdd, Nat.reduceSub, Nat.reduceBEq, beq_self_eq_true, dPar, dUA, unAl, DL.storeAll, dUnp, patStore, DL.putAll, Sd.wipe, wipeE, putO, clrN, gNe_ii, gEq_ii, gNe_l0, gEq_l0, gNe_t0, gEq_t0, gLen_t, gLen_l, gIx_t, gIx_l, atI_0, atI_1, atI_2, atI_3, atI_4, Option.map_some]
    obtain ⟨v, rfl, v0, v1⟩ : ∃ v : Int, x = .int v ∧ 0 ≤ v ∧ v ≤ 3 := by
      simp only [List.mem_cons, List.not_mem_nil, or_false] at hx
      rcases hx with rfl | rfl | rfl | rfl | rfl <;> exact ⟨_, rfl, by decide, by decide⟩
    have key : ∀ u : Int, 0 ≤ u → u ≤ 3 → (u = 0 → ns.count 0 ≤ 2) → N ⟨[some (.v .dr), some (.ol (ns.map D.int ++ [.int u])), some (.v d), some (.v (.int v))], g⟩ := fun u u0 u1 uz => by
      refine hN _ ⟨ns ++ [u], _, _, by rw [List.map_append]; rfl, by simp; omega, ?_, ?_, ?_⟩
      · intro y hy
        rcases List.mem_append.mp hy with z | z
        · exact hr y z
        · rw [List.mem_singleton.mp z]; exact ⟨u0, u1⟩
      · cases ns with
        | nil => cases hh
        | cons a b => exact hh
      · rw [List.count_append]
        by_cases z : u = 0
        · have := uz z; subst z; simp; omega
        · have : List.count 0 [u] = 0 := List.count_eq_zero.mpr (by simp; omega)
          omega
    have fz : ∀ u : Int, fitN ((ns.map D.int).length + 1) = true := fun u => by unfold fitN; rw [List.length_map]; exact decide_eq_true (by omega)
    simp only [dFn, dSeq, dIfS, dOr, dAnd, dNot, dB, dIsT, dVar, startD, nthO, setN, Sd.put, List.map_cons, List.map_nil, List.cons_append, List.nil_append, List.length_cons, List.length_nil, List.replicate, view, DL.settle, bindO, gIsInt, gIsBool, gIsTup, gIsStr, gIsLst, dRet, dRetN, dC, outR, dNext, dOp, dUn, gIsN, gNotN, gGe, gLe, gGt, gLt, gI, dAndV, dOrV, dNotV, rB, rI', isNonD, dCall, dCons, dNil, guardB, dSet, dStore, dTup, dTupK, dLst, fewL, dIf, dChain, dDrop, Bool.not_true, Bool.not_false, List.append_nil, Nat.reduceAdd, Nat.reduceSub, Nat.reduceBEq, beq_self_eq_true, dPar, dUA, unAl, DL.storeAll, dUnp, patStore, DL.putAll, Sd.wipe, wipeE, putO, clrN, gNe_ii, gEq_ii, gNe_l0, gEq_l0, gNe_t0, gEq_t0, gLen_t, gLen_l, gIx_t, gIx_l, atI_0, atI_1, atI_2, atI_3, atI_4, Option.map_some, dAppend, olAt]
    cases hv : (v == 0) with
    | false =>
      simp only [dFn, dSeq, dIfS, dOr, dAnd, dNot, dB, dIsT, dVar, startD, nthO, setN, Sd.put, List.map_cons, List.map_nil, List.cons_append, List.nil_append, List.length_cons, List.length_nil, List.replicate, view, DL.settle, bindO, gIsInt, gIsBool, gIsTup, gIsStr, gIsLst, dRet, dRetN, dC, outR, dNext, dOp, dUn, gIsN, gNotN, gGe, gLe, gGt, gLt, gI, dAndV, dOrV, dNotV, rB, rI', isNonD, dCall, dCons, dNil, guardB, dSet, dStore, dTup, dTupK, dLst, fewL, dIf, dChain, dDrop, Bool.not_true, Bool.not_false, List.append_nil, Nat.reduceAdd, Nat.reduceSub, Nat.reduceBEq, beq_self_eq_true, dPar, dUA, unAl, DL.storeAll, dUnp, patStore, DL.putAll, Sd.wipe, wipeE, putO, clrN, gNe_ii, gEq_ii, gNe_l0, gEq_l0, gNe_t0, gEq_t0, gLen_t, gLen_l, gIx_t, gIx_l, atI_0, atI_1, atI_2, atI_3, atI_4, Option.map_some, fz v]
      exact key v v0 v1 (fun z => by subst z; simp at hv)
    | true =>
      have vz : v = 0 := by simpa using hv
      simp only [dFn, dSeq, dIfS, dOr, dAnd, dNot, dB, dIsT, dVar, startD, nthO, setN, Sd.put, List.map_cons, List.map_nil, List.cons_append, List.nil_append, List.length_cons, List.length_nil, List.replicate, view, DL.settle, bindO, gIsInt, gIsBool, gIsTup, gIsStr, gIsLst, dRet, dRetN, dC, outR, dNext, dOp, dUn, gIsN, gNotN, gGe, gLe, gGt, gLt, gI, dAndV, dOrV, dNotV, rB, rI', isNonD, dCall, dCons, dNil, guardB, dSet, dStore, dTup, dTupK, dLst, fewL, dIf, dChain, dDrop, Bool.not_true, Bool.not_false, List.append_nil, Nat.reduceAdd, Nat.reduceSub, Nat.reduceBEq, beq_self_eq_true, dPar, dUA, unAl, DL.storeAll, dUnp, patStore, DL.putAll, Sd.wipe, wipeE, putO, clrN, gNe_ii, gEq_ii, gNe_l0, gEq_l0, gNe_t0, gEq_t0, gLen_t, gLen_l, gIx_t, gIx_l, atI_0, atI_1, atI_2, atI_3, atI_4, Option.map_some, dCnt, isCnt, intsD_map]
      cases hq : (((ns.count 0 : Nat) : Int) == 3) with
      | true =>
        simp only [dFn, dSeq, dIfS, dOr, dAnd, dNot, dB, dIsT, dVar, startD, nthO, setN, Sd.put, List.map_cons, List.map_nil, List.cons_append, List.nil_append, List.length_cons, List.length_nil, List.replicate, view, DL.settle, bindO, gIsInt, gIsBool, gIsTup, gIsStr, gIsLst, dRet, dRetN, dC, outR, dNext, dOp, dUn, gIsN, gNotN, gGe, gLe, gGt, gLt, gI, dAndV, dOrV, dNotV, rB, rI', isNonD, dCall, dCons, dNil, guardB, dSet, dStore, dTup, dTupK, dLst, fewL, dIf, dChain, dDrop, Bool.not_true, Bool.not_false, List.append_nil, Nat.reduceAdd, Nat.reduceSub, Nat.reduceBEq, beq_self_eq_true, dPar, dUA, unAl, DL.storeAll, dUnp, patStore, DL.putAll, Sd.wipe, wipeE, putO, clrN, gNe_ii, gEq_ii, gNe_l0, gEq_l0, gNe_t0, gEq_t0, gLen_t, gLen_l, gIx_t, gIx_l, atI_0, atI_1, atI_2, atI_3, atI_4, Option.map_some, dAppend, olAt, fz v]
        exact key 1 (by decide) (by decide) (fun z => by cases z)
      | false =>
        have : ¬ ((ns.count 0 : Nat) : Int) = 3 := by simpa using hq
        simp only [dFn, dSeq, dIfS, dOr, dAnd, dNot, dB, dIsT, dVar, startD, nthO, setN, Sd.put, List.map_cons, List.map_nil, List.cons_append, List.nil_append, List.length_cons, List.length_nil, List.replicate, view, DL.settle, bindO, gIsInt, gIsBool, gIsTup, gIsStr, gIsLst, dRet, dRetN, dC, outR, dNext, dOp, dUn, gIsN, gNotN, gGe, gLe, gGt, gLt, gI, dAndV, dOrV, dNotV, rB, rI', isNonD, dCall, dCons, dNil, guardB, dSet, dStore, dTup, dTupK, dLst, fewL, dIf, dChain, dDrop, Bool.not_true, Bool.not_false, List.append_nil, Nat.reduceAdd, Nat.reduceSub, Nat.reduceBEq, beq_self_eq_true, dPar, dUA, unAl, DL.storeAll, dUnp, patStore, DL.putAll, Sd.wipe, wipeE, putO, clrN, gNe_ii, gEq_ii, gNe_l0, gEq_l0, gNe_t0, gEq_t0, gLen_t, gLen_l, gIx_t, gIx_l, atI_0, atI_1, atI_2, atI_3, atI_4, Option.map_some, dAppend, olAt, fz v]
        exact key v v0 v1 (fun _ => by omega)
  · obtain ⟨ns, x2, x3, rfl, hlen, hr, hh, hc⟩ := hi
    rw [rangeD_len] at hlen
    simp only [dFn, dSeq, dIfS, dOr, dAnd, dNot, dB, dIsT, dVar, startD, nthO, setN, Sd.put, List.map_cons, List.map_nil, List.cons_append, List.nil_append, List.length_cons, List.length_nil, List.replicate, view, DL.settle, bindO, gIsInt, gIsBool, gIsTup, gIsStr, gIsLst, dRet, dRetN, dC, outR, dNext, dOp, dUn, gIsN, gNotN, gGe, gLe, gGt, gLt, gI, dAndV, dOrV, dNotV, rB, rI', isNonD, dCall, dCons, dNil, guardB, dSet, dStore, dTup, dTupK, dLst, fewL, dIf, dChain, dDrop, Bool.not_true, Bool.not_false, List.append_nil, Nat.reduceAdd, Nat.reduceSub, Nat.reduceBEq, beq_self_eq_true, dPar, dUA, unAl, DL.storeAll, dUnp, patStore, DL.putAll, Sd.wipe, wipeE, putO, clrN, gNe_ii, gEq_ii, gNe_l0, gEq_l0, gNe_t0, gEq_t0, gLen_t, gLen_l, gIx_t, gIx_l, atI_0, atI_1, atI_2, atI_3, atI_4, Option.map_some, gTupK]
    exact q ns ⟨by omega, by omega, hr, hh, hc⟩ (by omega)
theorem law_move_dr {many : Int} (m2 : 2 ≤ many) (m9 : many ≤ 1000) (q : ∀ m, MvN many m → Q (.v (mvD m)) g) : den__law_move [.dr, .int many] g Q E := by
  simp only [den__law_move, body__law_move, dFn, dSeq, dIfS, dOr, dAnd, dNot, dB, dIsT, dVar, startD, nthO, setN, Sd.put, List.map_cons, List.map_nil, List.cons_append, List.nil_append, List.length_cons, List.length_nil, List.replicate, view, DL.settle, bindO, gIsInt, gIsBool, gIsTup, gIsStr, gIsLst, dRet, dRetN, dC, outR, dNext, dOp, dUn, gIsN, gNotN, gGe, gLe, gGt, gLt, gI, dAndV, dOrV, dNotV, rB, rI', isNonD, dCall, dCons, dNil, guardB, dSet, dStore, dTup, dTupK, dLst, fewL, dIf, dChain, dDrop, Bool.not_true, Bool.not_false, List.append_nil, Nat.reduceAdd, Nat.reduceSub, Nat.reduceBEq, beq_self_eq_true, dPar, dUA, unAl, DL.storeAll, dUnp, patStore, DL.putAll, Sd.wipe, wipeE, putO, clrN, gNe_ii, gEq_ii, gNe_l0, gEq_l0, gNe_t0, gEq_t0, gLen_t, gLen_l, gIx_t, gIx_l, atI_0, atI_1, atI_2, atI_3, atI_4, Option.map_some]
  refine next_ok (by omega) (by omega) fun b b0 b1 => ?_
  simp only [gAdd, DL.gSub, dFn, dSeq, dIfS, dOr, dAnd, dNot, dB, dIsT, dVar, startD, nthO, setN, Sd.put, List.map_cons, List.map_nil, List.cons_append, List.nil_append, List.length_cons, List.length_nil, List.replicate, view, DL.settle, bindO, gIsInt, gIsBool, gIsTup, gIsStr, gIsLst, dRet, dRetN, dC, outR, dNext, dOp, dUn, gIsN, gNotN, gGe, gLe, gGt, gLt, gI, dAndV, dOrV, dNotV, rB, rI', isNonD, dCall, dCons, dNil, guardB, dSet, dStore, dTup, dTupK, dLst, fewL, dIf, dChain, dDrop, Bool.not_true, Bool.not_false, List.append_nil, Nat.reduceAdd, Nat.reduceSub, Nat.reduceBEq, beq_self_eq_true, dPar, dUA, unAl, DL.storeAll, dUnp, patStore, DL.putAll, Sd.wipe, wipeE, putO, clrN, gNe_ii, gEq_ii, gNe_l0, gEq_l0, gNe_t0, gEq_t0, gLen_t, gLen_l, gIx_t, gIx_l, atI_0, atI_1, atI_2, atI_3, atI_4, Option.map_some]
  refine next_ok (by omega) (by omega) fun k k0 k1 => ?_
  have hmz : decide (many ≠ 0) = true := decide_eq_true (by omega)
  simp only [gAdd, gInt, gMod, ifB, dFn, dSeq, dIfS, dOr, dAnd, dNot, dB, dIsT, dVar, startD, nthO, setN, Sd.put, List.map_cons, List.map_nil, List.cons_append, List.nil_append, List.length_cons, List.length_nil, List.replicate, view, DL.settle, bindO, gIsInt, gIsBool, gIsTup, gIsStr, gIsLst, dRet, dRetN, dC, outR, dNext, dOp, dUn, gIsN, gNotN, gGe, gLe, gGt, gLt, gI, dAndV, dOrV, dNotV, rB, rI', isNonD, dCall, dCons, dNil, guardB, dSet, dStore, dTup, dTupK, dLst, fewL, dIf, dChain, dDrop, Bool.not_true, Bool.not_false, List.append_nil, Nat.reduceAdd, Nat.reduceSub, Nat.reduceBEq, beq_self_eq_true, dPar, dUA, unAl, DL.storeAll, dUnp, patStore, DL.putAll, Sd.wipe, wipeE, putO, clrN, gNe_ii, gEq_ii, gNe_l0, gEq_l0, gNe_t0, gEq_t0, gLen_t, gLen_l, gIx_t, gIx_l, atI_0, atI_1, atI_2, atI_3, atI_4, Option.map_some, hmz]
  have e0 : 0 ≤ (b + 1 + k).fmod many := Int.fmod_nonneg_of_pos _ (by omega)
  have e1 : (b + 1 + k).fmod many < many := Int.fmod_lt_of_pos _ (by omega)
  have ne : b ≠ (b + 1 + k).fmod many := by
    rw [Int.fmod_eq_emod_of_nonneg _ (by omega)]
    by_cases h : b + 1 + k < many
    · rw [Int.emod_eq_of_lt (by omega) h]; omega
    · have : (b + 1 + k) % many = b + 1 + k - many := by
        rw [← Int.sub_emod_right, Int.emod_eq_of_lt (by omega) (by omega)]
      rw [this]; omega
  revert e0 e1 ne
  generalize (b + 1 + k).fmod many = e
  intro e0 e1 ne
  refine next_ok (by decide) (by decide) fun t t0 t1 => ?_
  simp only [dFn, dSeq, dIfS, dOr, dAnd, dNot, dB, dIsT, dVar, startD, nthO, setN, Sd.put, List.map_cons, List.map_nil, List.cons_append, List.nil_append, List.length_cons, List.length_nil, List.replicate, view, DL.settle, bindO, gIsInt, gIsBool, gIsTup, gIsStr, gIsLst, dRet, dRetN, dC, outR, dNext, dOp, dUn, gIsN, gNotN, gGe, gLe, gGt, gLt, gI, dAndV, dOrV, dNotV, rB, rI', isNonD, dCall, dCons, dNil, guardB, dSet, dStore, dTup, dTupK, dLst, fewL, dIf, dChain, dDrop, Bool.not_true, Bool.not_false, List.append_nil, Nat.reduceAdd, Nat.reduceSub, Nat.reduceBEq, beq_self_eq_true, dPar, dUA, unAl, DL.storeAll, dUnp, patStore, DL.putAll, Sd.wipe, wipeE, putO, clrN, gNe_ii, gEq_ii, gNe_l0, gEq_l0, gNe_t0, gEq_t0, gLen_t, gLen_l, gIx_t, gIx_l, atI_0, atI_1, atI_2, atI_3, atI_4, Option.map_some]
  refine next_ok (by decide) (by decide) fun j j0 j1 => ?_
  obtain ⟨x, hx, ex⟩ := gIx_mem (l := [D.int 0, .int 0, .int 10, .int 20, .int 30, .int 40, .int 50, .int 25, .int 61, .int t]) j0 (by simpa using j1)
  simp only [ex, dFn, dSeq, dIfS, dOr, dAnd, dNot, dB, dIsT, dVar, startD, nthO, setN, Sd.put, List.map_cons, List.map_nil, List.cons_append, List.nil_append, List.length_cons, List.length_nil, List.replicate, view, DL.settle, bindO, gIsInt, gIsBool, gIsTup, gIsStr, gIsLst, dRet, dRetN, dC, outR, dNext, dOp, dUn, gIsN, gNotN, gGe, gLe, gGt, gLt, gI, dAndV, dOrV, dNotV, rB, rI', isNonD, dCall, dCons, dNil, guardB, dSet, dStore, dTup, dTupK, dLst, fewL, dIf, dChain, dDrop, Bool.not_true, Bool.not_false, List.append_nil, Nat.reduceAdd, Nat.reduceSub, Nat.reduceBEq, beq_self_eq_true, dPar, dUA, unAl, DL.storeAll, dUnp, patStore, DL.putAll, Sd.wipe, wipeE, putO, clrN, gNe_ii, gEq_ii, gNe_l0, gEq_l0, gNe_t0, gEq_t0, gLen_t, gLen_l, gIx_t, gIx_l, atI_0, atI_1, atI_2, atI_3, atI_4, Option.map_some]
  obtain ⟨l, rfl, l0, l1⟩ : ∃ v : Int, x = .int v ∧ 0 ≤ v ∧ v ≤ 1000 := by
    simp only [List.mem_cons, List.not_mem_nil, or_false] at hx
    rcases hx with rfl | rfl | rfl | rfl | rfl | rfl | rfl | rfl | rfl | rfl <;> exact ⟨_, rfl, by omega, by omega⟩
  refine next_ok (by decide) (by decide) fun u u0 u1 => ?_
  obtain ⟨y, hy, ey⟩ := gIx_mem (l := [D.non, .non, .non, .int 60, .int 50, .int 40, .int 20, .int l, .int 1000]) u0 (by simpa using u1)
  simp only [ey, dFn, dSeq, dIfS, dOr, dAnd, dNot, dB, dIsT, dVar, startD, nthO, setN, Sd.put, List.map_cons, List.map_nil, List.cons_append, List.nil_append, List.length_cons, List.length_nil, List.replicate, view, DL.settle, bindO, gIsInt, gIsBool, gIsTup, gIsStr, gIsLst, dRet, dRetN, dC, outR, dNext, dOp, dUn, gIsN, gNotN, gGe, gLe, gGt, gLt, gI, dAndV, dOrV, dNotV, rB, rI', isNonD, dCall, dCons, dNil, guardB, dSet, dStore, dTup, dTupK, dLst, fewL, dIf, dChain, dDrop, Bool.not_true, Bool.not_false, List.append_nil, Nat.reduceAdd, Nat.reduceSub, Nat.reduceBEq, beq_self_eq_true, dPar, dUA, unAl, DL.storeAll, dUnp, patStore, DL.putAll, Sd.wipe, wipeE, putO, clrN, gNe_ii, gEq_ii, gNe_l0, gEq_l0, gNe_t0, gEq_t0, gLen_t, gLen_l, gIx_t, gIx_l, atI_0, atI_1, atI_2, atI_3, atI_4, Option.map_some]
  have cs : y = .non ∨ ∃ v : Int, y = .int v ∧ v ≤ 1000 := by
    simp only [List.mem_cons, List.not_mem_nil, or_false] at hy
    rcases hy with rfl | rfl | rfl | rfl | rfl | rfl | rfl | rfl | rfl <;> first | exact .inl rfl | exact .inr ⟨_, rfl, by omega⟩
  rcases cs with rfl | ⟨v, rfl, v1⟩
  · exact q ⟨b, l, none, e⟩ ⟨b0, b1, e0, e1, ne, l0, l1, fun x h => by cases h⟩
  · simp only [gMax, dFn, dSeq, dIfS, dOr, dAnd, dNot, dB, dIsT, dVar, startD, nthO, setN, Sd.put, List.map_cons, List.map_nil, List.cons_append, List.nil_append, List.length_cons, List.length_nil, List.replicate, view, DL.settle, bindO, gIsInt, gIsBool, gIsTup, gIsStr, gIsLst, dRet, dRetN, dC, outR, dNext, dOp, dUn, gIsN, gNotN, gGe, gLe, gGt, gLt, gI, dAndV, dOrV, dNotV, rB, rI', isNonD, dCall, dCons, dNil, guardB, dSet, dStore, dTup, dTupK, dLst, fewL, dIf, dChain, dDrop, Bool.not_true, Bool.not_false, List.append_nil, Nat.reduceAdd, Nat.reduceSub, Nat.reduceBEq, beq_self_eq_true, dPar, dUA, unAl, DL.storeAll, dUnp, patStore, DL.putAll, Sd.wipe, wipeE, putO, clrN, gNe_ii, gEq_ii, gNe_l0, gEq_l0, gNe_t0, gEq_t0, gLen_t, gLen_l, gIx_t, gIx_l, atI_0, atI_1, atI_2, atI_3, atI_4, Option.map_some]
    exact q ⟨b, l, some (if v > l then v else l), e⟩ ⟨b0, b1, e0, e1, ne, l0, l1, fun x h => by cases h; show l ≤ _ ∧ _ ≤ (1000 : Int); constructor <;> split <;> omega⟩
theorem law_rig_dr (q : ∀ r, RgDr r → Q (.v (rgD r)) g) : den__law_rig [.dr] g Q E := by
  simp only [den__law_rig, body__law_rig, dRng1, DL.intD, dLc, dFn, dSeq, dIfS, dOr, dAnd, dNot, dB, dIsT, dVar, startD, nthO, setN, Sd.put, List.map_cons, List.map_nil, List.cons_append, List.nil_append, List.length_cons, List.length_nil, List.replicate, view, DL.settle, bindO, gIsInt, gIsBool, gIsTup, gIsStr, gIsLst, dRet, dRetN, dC, outR, dNext, dOp, dUn, gIsN, gNotN, gGe, gLe, gGt, gLt, gI, dAndV, dOrV, dNotV, rB, rI', isNonD, dCall, dCons, dNil, guardB, dSet, dStore, dTup, dTupK, dLst, fewL, dIf, dChain, dDrop, Bool.not_true, Bool.not_false, List.append_nil, Nat.reduceAdd, Nat.reduceSub, Nat.reduceBEq, beq_self_eq_true, dPar, dUA, unAl, DL.storeAll, dUnp, patStore, DL.putAll, Sd.wipe, wipeE, putO, clrN, gNe_ii, gEq_ii, gNe_l0, gEq_l0, gNe_t0, gEq_t0, gLen_t, gLen_l, gIx_t, gIx_l, atI_0, atI_1, atI_2, atI_3, atI_4, Option.map_some]
  refine law_loads_dr fun ns hn hn5 => ?_
  simp only [loadsT, dFn, dSeq, dIfS, dOr, dAnd, dNot, dB, dIsT, dVar, startD, nthO, setN, Sd.put, List.map_cons, List.map_nil, List.cons_append, List.nil_append, List.length_cons, List.length_nil, List.replicate, view, DL.settle, bindO, gIsInt, gIsBool, gIsTup, gIsStr, gIsLst, dRet, dRetN, dC, outR, dNext, dOp, dUn, gIsN, gNotN, gGe, gLe, gGt, gLt, gI, dAndV, dOrV, dNotV, rB, rI', isNonD, dCall, dCons, dNil, guardB, dSet, dStore, dTup, dTupK, dLst, fewL, dIf, dChain, dDrop, Bool.not_true, Bool.not_false, List.append_nil, Nat.reduceAdd, Nat.reduceSub, Nat.reduceBEq, beq_self_eq_true, dPar, dUA, unAl, DL.storeAll, dUnp, patStore, DL.putAll, Sd.wipe, wipeE, putO, clrN, gNe_ii, gEq_ii, gNe_l0, gEq_l0, gNe_t0, gEq_t0, gLen_t, gLen_l, gIx_t, gIx_l, atI_0, atI_1, atI_2, atI_3, atI_4, Option.map_some]
  refine next_ok (by decide) (by decide) fun i i0 i1 => ?_
  simp only [gAdd, DL.intD, dFn, dSeq, dIfS, dOr, dAnd, dNot, dB, dIsT, dVar, startD, nthO, setN, Sd.put, List.map_cons, List.map_nil, List.cons_append, List.nil_append, List.length_cons, List.length_nil, List.replicate, view, DL.settle, bindO, gIsInt, gIsBool, gIsTup, gIsStr, gIsLst, dRet, dRetN, dC, outR, dNext, dOp, dUn, gIsN, gNotN, gGe, gLe, gGt, gLt, gI, dAndV, dOrV, dNotV, rB, rI', isNonD, dCall, dCons, dNil, guardB, dSet, dStore, dTup, dTupK, dLst, fewL, dIf, dChain, dDrop, Bool.not_true, Bool.not_false, List.append_nil, Nat.reduceAdd, Nat.reduceSub, Nat.reduceBEq, beq_self_eq_true, dPar, dUA, unAl, DL.storeAll, dUnp, patStore, DL.putAll, Sd.wipe, wipeE, putO, clrN, gNe_ii, gEq_ii, gNe_l0, gEq_l0, gNe_t0, gEq_t0, gLen_t, gLen_l, gIx_t, gIx_l, atI_0, atI_1, atI_2, atI_3, atI_4, Option.map_some]
  have hr : (decide (-16777216 ≤ 1 + i) && decide (1 + i ≤ 16777216)) = true := by
    rw [decide_eq_true (by omega), decide_eq_true (by omega)]; rfl
  rw [hr]
  refine lc_rel (fun d => ⟨[some (.v .dr), some (.v (.lds (ns.map D.int))), none, none, none, some (.v d)], g⟩) (fun r => ∃ m, MvN ns.length m ∧ r = mvD m) _ (fun _ _ => rfl) (fun _ _ => rfl) (fun d hd Q1 E1 q1 => ?_) [] fun rs hl hrs => ?_
  · simp only [dFn, dSeq, dIfS, dOr, dAnd, dNot, dB, dIsT, dVar, startD, nthO, setN, Sd.put, List.map_cons, List.map_nil, List.cons_append, List.nil_append, List.length_cons, List.length_nil, List.replicate, view, DL.settle, bindO, gIsInt, gIsBool, gIsTup, gIsStr, gIsLst, dRet, dRetN, dC, outR, dNext, dOp, dUn, gIsN, gNotN, gGe, gLe, gGt, gLt, gI, dAndV, dOrV, dNotV, rB, rI', isNonD, dCall, dCons, dNil, guardB, dSet, dStore, dTup, dTupK, dLst, fewL, dIf, dChain, dDrop, Bool.not_true, Bool.not_false, List.append_nil, Nat.reduceAdd, Nat.reduceSub, Nat.reduceBEq, beq_self_eq_true, dPar, dUA, unAl, DL.storeAll, dUnp, patStore, DL.putAll, Sd.wipe, wipeE, putO, clrN, gNe_ii, gEq_ii, gNe_l0, gEq_l0, gNe_t0, gEq_t0, gLen_t, gLen_l, gIx_t, gIx_l, atI_0, atI_1, atI_2, atI_3, atI_4, Option.map_some, List.length_map]
    exact law_move_dr (by have := hn.two; omega) (by omega) fun m hm => q1 _ ⟨m, hm, rfl⟩
  · have hms : ∃ ms : List Mv, rs = ms.map mvD ∧ ∀ m ∈ ms, MvN ns.length m := by
      clear hl hr
      induction rs with
      | nil => exact ⟨[], rfl, by simp⟩
      | cons r rs ih =>
        obtain ⟨m, hm, rfl⟩ := hrs r (List.mem_cons_self ..)
        obtain ⟨ms, rfl, h⟩ := ih fun x hx => hrs x (List.mem_cons_of_mem _ hx)
        exact ⟨m :: ms, rfl, fun x hx => (List.mem_cons.mp hx).elim (fun e => by rw [e]; exact hm) (h x)⟩
    obtain ⟨ms, rfl, hms⟩ := hms
    rw [rangeD_len, List.length_map] at hl
    simp only [gTuple, gTupK, dFn, dSeq, dIfS, dOr, dAnd, dNot, dB, dIsT, dVar, startD, nthO, setN, Sd.put, List.map_cons, List.map_nil, List.cons_append, List.nil_append, List.length_cons, List.length_nil, List.replicate, view, DL.settle, bindO, gIsInt, gIsBool, gIsTup, gIsStr, gIsLst, dRet, dRetN, dC, outR, dNext, dOp, dUn, gIsN, gNotN, gGe, gLe, gGt, gLt, gI, dAndV, dOrV, dNotV, rB, rI', isNonD, dCall, dCons, dNil, guardB, dSet, dStore, dTup, dTupK, dLst, fewL, dIf, dChain, dDrop, Bool.not_true, Bool.not_false, List.append_nil, Nat.reduceAdd, Nat.reduceSub, Nat.reduceBEq, beq_self_eq_true, dPar, dUA, unAl, DL.storeAll, dUnp, patStore, DL.putAll, Sd.wipe, wipeE, putO, clrN, gNe_ii, gEq_ii, gNe_l0, gEq_l0, gNe_t0, gEq_t0, gLen_t, gLen_l, gIx_t, gIx_l, atI_0, atI_1, atI_2, atI_3, atI_4, Option.map_some]
    refine next_ok (by decide) (by decide) fun f f0 f1 => ?_
    simp only [gAdd, dFn, dSeq, dIfS, dOr, dAnd, dNot, dB, dIsT, dVar, startD, nthO, setN, Sd.put, List.map_cons, List.map_nil, List.cons_append, List.nil_append, List.length_cons, List.length_nil, List.replicate, view, DL.settle, bindO, gIsInt, gIsBool, gIsTup, gIsStr, gIsLst, dRet, dRetN, dC, outR, dNext, dOp, dUn, gIsN, gNotN, gGe, gLe, gGt, gLt, gI, dAndV, dOrV, dNotV, rB, rI', isNonD, dCall, dCons, dNil, guardB, dSet, dStore, dTup, dTupK, dLst, fewL, dIf, dChain, dDrop, Bool.not_true, Bool.not_false, List.append_nil, Nat.reduceAdd, Nat.reduceSub, Nat.reduceBEq, beq_self_eq_true, dPar, dUA, unAl, DL.storeAll, dUnp, patStore, DL.putAll, Sd.wipe, wipeE, putO, clrN, gNe_ii, gEq_ii, gNe_l0, gEq_l0, gNe_t0, gEq_t0, gLen_t, gLen_l, gIx_t, gIx_l, atI_0, atI_1, atI_2, atI_3, atI_4, Option.map_some]
    refine next_ok (by decide) (by decide) fun j j0 j1 => ?_
    obtain ⟨x, hx, ex⟩ := gIx_mem (l := [D.int 60, .int 60, .int 50, .int (1 + f)]) j0 (by simpa using j1)
    simp only [ex, dFn, dSeq, dIfS, dOr, dAnd, dNot, dB, dIsT, dVar, startD, nthO, setN, Sd.put, List.map_cons, List.map_nil, List.cons_append, List.nil_append, List.length_cons, List.length_nil, List.replicate, view, DL.settle, bindO, gIsInt, gIsBool, gIsTup, gIsStr, gIsLst, dRet, dRetN, dC, outR, dNext, dOp, dUn, gIsN, gNotN, gGe, gLe, gGt, gLt, gI, dAndV, dOrV, dNotV, rB, rI', isNonD, dCall, dCons, dNil, guardB, dSet, dStore, dTup, dTupK, dLst, fewL, dIf, dChain, dDrop, Bool.not_true, Bool.not_false, List.append_nil, Nat.reduceAdd, Nat.reduceSub, Nat.reduceBEq, beq_self_eq_true, dPar, dUA, unAl, DL.storeAll, dUnp, patStore, DL.putAll, Sd.wipe, wipeE, putO, clrN, gNe_ii, gEq_ii, gNe_l0, gEq_l0, gNe_t0, gEq_t0, gLen_t, gLen_l, gIx_t, gIx_l, atI_0, atI_1, atI_2, atI_3, atI_4, Option.map_some]
    obtain ⟨full, rfl, full0, full1⟩ : ∃ v : Int, x = .int v ∧ 1 ≤ v ∧ v ≤ 1000 := by
      simp only [List.mem_cons, List.not_mem_nil, or_false] at hx
      rcases hx with rfl | rfl | rfl | rfl <;> exact ⟨_, rfl, by omega, by omega⟩
    refine next_ok (by decide) (by decide) fun k k0 k1 => ?_
    obtain ⟨y, hy, ey⟩ := gIx_mem (l := [D.int 2, .int 3, .int 1, .int 4, .int 6, .int 5]) k0 (by simpa using k1)
    simp only [ey, dFn, dSeq, dIfS, dOr, dAnd, dNot, dB, dIsT, dVar, startD, nthO, setN, Sd.put, List.map_cons, List.map_nil, List.cons_append, List.nil_append, List.length_cons, List.length_nil, List.replicate, view, DL.settle, bindO, gIsInt, gIsBool, gIsTup, gIsStr, gIsLst, dRet, dRetN, dC, outR, dNext, dOp, dUn, gIsN, gNotN, gGe, gLe, gGt, gLt, gI, dAndV, dOrV, dNotV, rB, rI', isNonD, dCall, dCons, dNil, guardB, dSet, dStore, dTup, dTupK, dLst, fewL, dIf, dChain, dDrop, Bool.not_true, Bool.not_false, List.append_nil, Nat.reduceAdd, Nat.reduceSub, Nat.reduceBEq, beq_self_eq_true, dPar, dUA, unAl, DL.storeAll, dUnp, patStore, DL.putAll, Sd.wipe, wipeE, putO, clrN, gNe_ii, gEq_ii, gNe_l0, gEq_l0, gNe_t0, gEq_t0, gLen_t, gLen_l, gIx_t, gIx_l, atI_0, atI_1, atI_2, atI_3, atI_4, Option.map_some, List.length_map]
    obtain ⟨lim, rfl, lim0, lim1⟩ : ∃ v : Int, y = .int v ∧ 1 ≤ v ∧ v ≤ 6 := by
      simp only [List.mem_cons, List.not_mem_nil, or_false] at hy
      rcases hy with rfl | rfl | rfl | rfl | rfl | rfl <;> exact ⟨_, rfl, by decide, by decide⟩
    have hm1 : 1 ≤ ms.length := by omega
    have hm7 : ms.length ≤ 7 := by omega
    have last : ∀ L : Int, 1 ≤ L → L ≤ 6 → (4 < ns.length → L ≤ 4 - (if 2 < ns.count 0 then 1 else 0)) → ∀ z : D, z ∈ [D.lds [.int 10, .int 1], .lds [.int 10, .int 1], .lds [.int 20, .int 1], .lds [.int 15, .int 2], .lds [.int 5, .int 1], .lds [.int 1, .int 3]] →
        Q (.v (.lds [.lds (ns.map D.int), .lds (ms.map mvD), .int full, .int L, z])) g := fun L L0 L1 L4 z hz => by
      have fin : ∀ s b : Int, (s, b) ∈ [((10 : Int), (1 : Int)), (20, 1), (15, 2), (5, 1), (1, 3)] → 1 ≤ s → s ≤ 10000 → 1 ≤ b → b ≤ 10000 → Nat.gcd s.toNat b.toNat = 1 → Q (.v (.lds [.lds (ns.map D.int), .lds (ms.map mvD), .int full, .int L, .lds [.int s, .int b]])) g := fun s b hm s0 s1 b0 b1 hg =>
        q ⟨ns, ms, full, L, s, b⟩ ⟨⟨hn, hm1, Nat.le_trans hm7 (by decide), hms, full0, full1, L0, L1, s0, s1, b0, b1, hg⟩, hn5, hm7, L4, hm⟩
      simp only [List.mem_cons, List.not_mem_nil, or_false] at hz
      rcases hz with rfl | rfl | rfl | rfl | rfl | rfl <;> exact fin _ _ (by simp) (by decide) (by decide) (by decide) (by decide) (by decide)
    cases h4 : decide ((4 : Int) < (ns.length : Int)) with
    | true =>
      have h4' := of_decide_eq_true h4
      simp only [dFn, dSeq, dIfS, dOr, dAnd, dNot, dB, dIsT, dVar, startD, nthO, setN, Sd.put, List.map_cons, List.map_nil, List.cons_append, List.nil_append, List.length_cons, List.length_nil, List.replicate, view, DL.settle, bindO, gIsInt, gIsBool, gIsTup, gIsStr, gIsLst, dRet, dRetN, dC, outR, dNext, dOp, dUn, gIsN, gNotN, gGe, gLe, gGt, gLt, gI, dAndV, dOrV, dNotV, rB, rI', isNonD, dCall, dCons, dNil, guardB, dSet, dStore, dTup, dTupK, dLst, fewL, dIf, dChain, dDrop, Bool.not_true, Bool.not_false, List.append_nil, Nat.reduceAdd, Nat.reduceSub, Nat.reduceBEq, beq_self_eq_true, dPar, dUA, unAl, DL.storeAll, dUnp, patStore, DL.putAll, Sd.wipe, wipeE, putO, clrN, gNe_ii, gEq_ii, gNe_l0, gEq_l0, gNe_t0, gEq_t0, gLen_t, gLen_l, gIx_t, gIx_l, atI_0, atI_1, atI_2, atI_3, atI_4, Option.map_some, dCnt, isCnt, intsD_map, gInt, gMin, DL.gSub]
      refine next_ok (by decide) (by decide) fun w w0 w1 => ?_
      obtain ⟨z, hz, ez⟩ := gIx_mem (l := [D.lds [.int 10, .int 1], .lds [.int 10, .int 1], .lds [.int 20, .int 1], .lds [.int 15, .int 2], .lds [.int 5, .int 1], .lds [.int 1, .int 3]]) w0 (by simpa using w1)
      simp only [ez, dFn, dSeq, dIfS, dOr, dAnd, dNot, dB, dIsT, dVar, startD, nthO, setN, Sd.put, List.map_cons, List.map_nil, List.cons_append, List.nil_append, List.length_cons, List.length_nil, List.replicate, view, DL.settle, bindO, gIsInt, gIsBool, gIsTup, gIsStr, gIsLst, dRet, dRetN, dC, outR, dNext, dOp, dUn, gIsN, gNotN, gGe, gLe, gGt, gLt, gI, dAndV, dOrV, dNotV, rB, rI', isNonD, dCall, dCons, dNil, guardB, dSet, dStore, dTup, dTupK, dLst, fewL, dIf, dChain, dDrop, Bool.not_true, Bool.not_false, List.append_nil, Nat.reduceAdd, Nat.reduceSub, Nat.reduceBEq, beq_self_eq_true, dPar, dUA, unAl, DL.storeAll, dUnp, patStore, DL.putAll, Sd.wipe, wipeE, putO, clrN, gNe_ii, gEq_ii, gNe_l0, gEq_l0, gNe_t0, gEq_t0, gLen_t, gLen_l, gIx_t, gIx_l, atI_0, atI_1, atI_2, atI_3, atI_4, Option.map_some]
      refine last _ ?_ ?_ (fun _ => ?_) z hz
      · split <;> (try split) <;> omega
      · split <;> (try split) <;> omega
      · cases hc : decide ((2 : Int) < ((ns.count 0 : Nat) : Int)) with
        | true =>
          have := of_decide_eq_true hc
          rw [if_pos (show 2 < ns.count 0 by omega)]
          split <;> simp_all <;> omega
        | false =>
          have := of_decide_eq_false hc
          rw [if_neg (show ¬ 2 < ns.count 0 by omega)]
          split <;> simp_all <;> omega
    | false =>
      have h4' := of_decide_eq_false h4
      simp only [dFn, dSeq, dIfS, dOr, dAnd, dNot, dB, dIsT, dVar, startD, nthO, setN, Sd.put, List.map_cons, List.map_nil, List.cons_append, List.nil_append, List.length_cons, List.length_nil, List.replicate, view, DL.settle, bindO, gIsInt, gIsBool, gIsTup, gIsStr, gIsLst, dRet, dRetN, dC, outR, dNext, dOp, dUn, gIsN, gNotN, gGe, gLe, gGt, gLt, gI, dAndV, dOrV, dNotV, rB, rI', isNonD, dCall, dCons, dNil, guardB, dSet, dStore, dTup, dTupK, dLst, fewL, dIf, dChain, dDrop, Bool.not_true, Bool.not_false, List.append_nil, Nat.reduceAdd, Nat.reduceSub, Nat.reduceBEq, beq_self_eq_true, dPar, dUA, unAl, DL.storeAll, dUnp, patStore, DL.putAll, Sd.wipe, wipeE, putO, clrN, gNe_ii, gEq_ii, gNe_l0, gEq_l0, gNe_t0, gEq_t0, gLen_t, gLen_l, gIx_t, gIx_l, atI_0, atI_1, atI_2, atI_3, atI_4, Option.map_some]
      refine next_ok (by decide) (by decide) fun w w0 w1 => ?_
      obtain ⟨z, hz, ez⟩ := gIx_mem (l := [D.lds [.int 10, .int 1], .lds [.int 10, .int 1], .lds [.int 20, .int 1], .lds [.int 15, .int 2], .lds [.int 5, .int 1], .lds [.int 1, .int 3]]) w0 (by simpa using w1)
      simp only [ez, dFn, dSeq, dIfS, dOr, dAnd, dNot, dB, dIsT, dVar, startD, nthO, setN, Sd.put, List.map_cons, List.map_nil, List.cons_append, List.nil_append, List.length_cons, List.length_nil, List.replicate, view, DL.settle, bindO, gIsInt, gIsBool, gIsTup, gIsStr, gIsLst, dRet, dRetN, dC, outR, dNext, dOp, dUn, gIsN, gNotN, gGe, gLe, gGt, gLt, gI, dAndV, dOrV, dNotV, rB, rI', isNonD, dCall, dCons, dNil, guardB, dSet, dStore, dTup, dTupK, dLst, fewL, dIf, dChain, dDrop, Bool.not_true, Bool.not_false, List.append_nil, Nat.reduceAdd, Nat.reduceSub, Nat.reduceBEq, beq_self_eq_true, dPar, dUA, unAl, DL.storeAll, dUnp, patStore, DL.putAll, Sd.wipe, wipeE, putO, clrN, gNe_ii, gEq_ii, gNe_l0, gEq_l0, gNe_t0, gEq_t0, gLen_t, gLen_l, gIx_t, gIx_l, atI_0, atI_1, atI_2, atI_3, atI_4, Option.map_some]
      exact last _ lim0 lim1 (fun h => absurd h (by omega)) z hz
end

section
variable {g : Gst} {Q : Rv → Gst → Prop} {E : Xd → Gst → Prop}
theorem gdL_map {α : Type} {f : α → D} {l : List α} (h : ∀ x ∈ l, gd (f x) = true) : gdL (l.map f) = true := by
  induction l with
  | nil => rfl
  | cons a l ih =>
    simp only [List.map_cons, gdL, Bool.and_eq_true]
    exact ⟨h a (List.mem_cons_self ..), ih fun x hx => h x (List.mem_cons_of_mem _ hx)⟩
theorem szL_map {α : Type} {f : α → D} {k : Nat} {l : List α} (h : ∀ x ∈ l, szD (f x) ≤ k) : szL (l.map f) ≤ k * l.length := by
  induction l with
  | nil => simp [szL]
  | cons a l ih =>
    simp only [List.map_cons, szL, List.length_cons]
    have h1 := h a (List.mem_cons_self ..)
    have h2 := ih fun x hx => h x (List.mem_cons_of_mem _ hx)
    rw [Nat.mul_add]
    omega
theorem dpL_map {α : Type} {f : α → D} {k : Nat} {l : List α} (h : ∀ x ∈ l, dpD (f x) ≤ k) : dpL (l.map f) ≤ k := by
  induction l with
  | nil => simp [dpL]
  | cons a l ih =>
    simp only [List.map_cons, dpL]
    have h1 := h a (List.mem_cons_self ..)
    have h2 := ih fun x hx => h x (List.mem_cons_of_mem _ hx)
    omega
theorem gd_int {i : Int} (h0 : -1000000 ≤ i) (h1 : i ≤ 1000000) : gd (.int i) = true := by
  simp only [gd, decide_eq_true_eq]
  omega
theorem mv_gd {many : Int} {m : Mv} (h : MvN many m) (hm : many ≤ 100) : gd (mvD m) = true ∧ szD (mvD m) = 5 ∧ dpD (mvD m) = 1 := by
  obtain ⟨b, l, mo, e⟩ := m
  obtain ⟨b0, b1, e0, e1, ne, l0, l1, m1⟩ := h
  simp only at b0 b1 e0 e1 ne l0 l1 m1
  cases mo with
  | none =>
    refine ⟨?_, rfl, rfl⟩
    show (gd (.int b) && (gd (.int l) && (true && (gd (.int e) && true)))) = true
    rw [gd_int (by omega) (by omega), gd_int (by omega) (by omega), gd_int (by omega) (by omega)]; rfl
  | some x =>
    have := m1 x rfl
    refine ⟨?_, rfl, rfl⟩
    show (gd (.int b) && (gd (.int l) && (gd (.int x) && (gd (.int e) && true)))) = true
    rw [gd_int (by omega) (by omega), gd_int (by omega) (by omega), gd_int (by omega) (by omega), gd_int (by omega) (by omega)]; rfl
theorem rg_gd {r : Rg} (h : RgN r) : gd (rgD r) = true ∧ szD (rgD r) ≤ 70 ∧ dpD (rgD r) ≤ 3 := by
  have hm : ∀ m ∈ r.moves, gd (mvD m) = true ∧ szD (mvD m) = 5 ∧ dpD (mvD m) = 1 := fun m hm => mv_gd (h.moves m hm) (by have := h.loads.six; omega)
  have g1 : gdL (r.loads.map D.int) = true := gdL_map fun x hx => gd_int (by have := h.loads.rng x hx; omega) (by have := h.loads.rng x hx; omega)
  have g2 : gdL (r.moves.map mvD) = true := gdL_map fun m hx => (hm m hx).1
  have s1 : szL (r.loads.map D.int) ≤ 1 * r.loads.length := szL_map fun x _ => by simp [szD]
  have s2 : szL (r.moves.map mvD) ≤ 5 * r.moves.length := szL_map fun m hx => by rw [(hm m hx).2.1]; omega
  have d1 : dpL (r.loads.map D.int) ≤ 0 := dpL_map fun x _ => by simp [dpD]
  have d2 : dpL (r.moves.map mvD) ≤ 1 := dpL_map fun m hx => by rw [(hm m hx).2.2]; omega
  obtain ⟨hl, _, h10, _, f0, f1, l0, l1, t0, t1, b0, b1, _⟩ := h
  have h6 := hl.six
  refine ⟨?_, ?_, ?_⟩
  · simp only [rgD, loadsT, gd, gdL, g1, g2, Bool.and_true, Bool.true_and, Bool.and_eq_true, decide_eq_true_eq]
    omega
  · simp only [rgD, loadsT, szD, szL]
    omega
  · simp only [rgD, loadsT, dpD, dpL]
    omega
theorem fil_count : ∀ ns : List Int, ((ns.map D.int).filter zD).length = ns.count 0
  | [] => rfl
  | n :: ns => by
    have ih := fil_count ns
    rw [List.count_cons]
    simp only [List.map_cons]
    cases hz : (n == 0) with
    | true => rw [List.filter_cons_of_pos (by exact hz)]; simp only [List.length_cons, ih]; rfl
    | false => rw [List.filter_cons_of_neg (by show ¬ (n == 0) = true; rw [hz]; decide)]; simp only [ih]; rfl
theorem loads_good {ns : List Int} (h : LoadsN ns) : loadsD (loadsT ns) = true := by
  obtain ⟨h2, h6, hr, hh, hc⟩ := h
  have ha : ((ns.map D.int).all fun x => whD x 0 3) = true := by
    rw [List.all_map, List.all_eq_true]
    intro x hx
    have := hr x hx
    simp only [Function.comp, whD, Bool.and_eq_true, decide_eq_true_eq]
    exact this
  obtain ⟨n, r, rfl⟩ : ∃ n r, ns = n :: r := by
    cases ns with
    | nil => cases hh
    | cons n r => exact ⟨n, r, rfl⟩
  have hn : n = 0 := by simpa using hh
  subst hn
  have fc := fil_count (0 :: r)
  unfold loadsD loadsT
  simp only [tupl]
  rw [ha, fc, List.length_map]
  simp only [List.map_cons, List.getD_cons_zero, zD, Bool.and_true, Bool.and_eq_true, decide_eq_true_eq, beq_self_eq_true]
  omega
theorem mv_good {many : Int} {m : Mv} (h : MvN many m) : moveD many (mvD m) = true := by
  obtain ⟨b, l, mo, e⟩ := m
  obtain ⟨b0, b1, e0, e1, ne, l0, l1, m1⟩ := h
  simp only at b0 b1 e0 e1 ne l0 l1 m1
  have hne : (b == e) = false := by simpa using ne
  show moveL many (.int b) (.int l) (optD mo) (.int e) = true
  unfold moveL
  cases mo with
  | none =>
    simp only [whD, eqD, hne, optD, isNonD, Bool.not_false, Bool.true_or, Bool.and_true, Bool.and_eq_true, decide_eq_true_eq]
    omega
  | some x =>
    have := m1 x rfl
    simp only [whD, eqD, hne, optD, isNonD, mostD, Bool.not_false, Bool.false_or, Bool.and_true, Bool.and_eq_true, decide_eq_true_eq]
    omega
theorem firstBad_none {many : Int} : ∀ {l : List D} {n : Nat}, (∀ d ∈ l, moveD many d = true) → firstBad many n l = none
  | [], _, _ => rfl
  | d :: l, n, h => by
    unfold firstBad
    rw [h d (List.mem_cons_self ..)]
    exact firstBad_none fun x hx => h x (List.mem_cons_of_mem _ hx)
theorem rg_good {r : Rg} (h : RgN r) : faultD (rgD r) = .non := by
  show faultL (loadsT r.loads) (.lds (r.moves.map mvD)) (.int r.full) (.int r.limit) (.lds [.int r.st, .int r.sb]) = .non
  unfold faultL
  rw [loads_good h.loads]
  simp only [loadsT, tupl]
  have e1 : (decide ((1 : Int) ≤ ((r.moves.map mvD).length : Int)) && decide (((r.moves.map mvD).length : Int) ≤ 10)) = true := by
    have h1 := h.some_
    have h2 := h.ten
    rw [List.length_map]
    simp only [Bool.and_eq_true, decide_eq_true_eq]
    omega
  have e2 : firstBad ((r.loads.map D.int).length : Int) 0 (r.moves.map mvD) = none := firstBad_none fun d hd => by
    obtain ⟨m, hm, rfl⟩ := List.mem_map.mp hd
    rw [List.length_map]
    exact mv_good (h.moves m hm)
  obtain ⟨hl, _, h10, _, f0, f1, l0, l1, t0, t1, b0, b1, cop⟩ := h
  have e3 : whD (.int r.full) 1 1000 = true := by simp only [whD, Bool.and_eq_true, decide_eq_true_eq]; omega
  have e4 : whD (.int r.limit) 1 6 = true := by simp only [whD, Bool.and_eq_true, decide_eq_true_eq]; omega
  have e5 : fracD (.lds [.int r.st, .int r.sb]) 10000 = true := by
    have w1 : whD (.int r.st) 1 10000 = true := by simp only [whD, Bool.and_eq_true, decide_eq_true_eq]; omega
    have w2 : whD (.int r.sb) 1 10000 = true := by simp only [whD, Bool.and_eq_true, decide_eq_true_eq]; omega
    show ((2 : Int) == 2 && (whD (.int r.st) 1 10000 && (whD (.int r.sb) 1 10000 && true)) && ((Nat.gcd r.st.toNat r.sb.toNat : Nat) : Int) == 1) = true
    rw [w1, w2, cop]
    rfl
  rw [e1]
  simp only [if_true, e2, e3, e4, e5]
end

end Sag
namespace Sag
open PySem PySem.Spec PyProof.Rows L2 DL
/-! ### numbers as texts -/
def nS (n : Nat) : Str := ⟨(TL.numL n).toArray⟩
theorem gStr_nat {n : Nat} (h : n ≤ 100000) : gStr (.int (n : Nat)) = some (.v (.str (nS n))) := by
  show ifB (decide (((n : Nat) : Int).natAbs.log2 < 1920)) _ = _
  have h1 : ((n : Nat) : Int).natAbs.log2 < 1920 := by
    rw [Int.natAbs_natCast]
    by_cases h0 : n = 0
    · subst h0; decide
    · have := Nat.log2_lt h0 (k := 17)
      have : n.log2 < 17 := this.mpr (by omega)
      omega
  rw [decide_eq_true h1]
  show some (Rv.v (D.str (Str.ofString (toString (Int.ofNat n))))) = _
  rw [PyProof.Rows.text_ofNat]
  rfl
theorem nS_list (n : Nat) : (nS n).cps.toList = TL.numL n := rfl
theorem nS_head : ∀ n : Nat, 1 ≤ n → ∃ c r, TL.numL n = c :: r ∧ c ≠ 48 := by
  intro n
  induction n using Nat.strongRecOn with
  | ind n ih =>
    intro h
    by_cases h10 : n < 10
    · exact ⟨48 + n, [], TL.numL_lt h10, by omega⟩
    · obtain ⟨c, r, e, hc⟩ := ih (n / 10) (by omega) (by omega)
      exact ⟨c, r ++ [48 + n % 10], by rw [TL.numL_step (by omega), e]; rfl, hc⟩
theorem numL_zero : TL.numL 0 = [48] := TL.numL_lt (by decide)
theorem nS_len {n : Nat} (h : n < 100000) : 1 ≤ (nS n).length ∧ (nS n).length ≤ 5 := by
  have h1 := TL.numL_len (n := n) (k := 5) (by decide) (by omega)
  have h2 : TL.numL n ≠ [] := TL.numL_ne n
  have e : (nS n).length = (TL.numL n).length := by simp [nS, Str.length]
  rw [e]
  refine ⟨?_, h1⟩
  cases hn : TL.numL n with
  | nil => exact (h2 hn).elim
  | cons a l => simp
theorem digit_in {c : Nat} (h : 48 ≤ c ∧ c ≤ 57) : gIn (.str ⟨#[c]⟩) (.str "0123456789") = rB true := by
  have h' : c = 48 ∨ c = 49 ∨ c = 50 ∨ c = 51 ∨ c = 52 ∨ c = 53 ∨ c = 54 ∨ c = 55 ∨ c = 56 ∨ c = 57 := by omega
  have key : ∀ c ∈ [48, 49, 50, 51, 52, 53, 54, 55, 56, 57], (!(Builtin.Str.occurrences "0123456789" ⟨#[c]⟩ 0 (Str.length "0123456789") 1).isEmpty) = true := by decide +kernel
  show rB _ = _
  rw [key c (by rcases h' with rfl | rfl | rfl | rfl | rfl | rfl | rfl | rfl | rfl | rfl <;> simp)]
/-- a text of small signs -/
def PS (y : Str) : Prop := ∀ c ∈ y.cps.toList, c < 256
theorem strOk_of {y : Str} (h : PS y) : PyData.strOk y = true := by
  unfold PyData.strOk
  rw [Array.all_eq_true']
  intro c hc
  have := h c (by simpa using hc)
  exact decide_eq_true (by omega)
theorem nS_ps (n : Nat) : PS (nS n) := fun c hc => by
  have := TL.numL_digits n c hc
  omega
theorem gEq_str {a b : Str} (ha : PyData.strOk a = true) (hb : PyData.strOk b = true) : gEq (.str a) (.str b) = rB (a == b) := by
  show ifB (okE 64 (.str a) && okE 64 (.str b)) (rB (eqD (.str a) (.str b))) = _
  rw [show okE 64 (.str a) = true from ha, show okE 64 (.str b) = true from hb]
  rfl
theorem gNe_str {a b : Str} (ha : PyData.strOk a = true) (hb : PyData.strOk b = true) : gNe (.str a) (.str b) = rB (!(a == b)) := by
  show ifB (okE 64 (.str a) && okE 64 (.str b)) (rB (!eqD (.str a) (.str b))) = _
  rw [show okE 64 (.str a) = true from ha, show okE 64 (.str b) = true from hb]
  rfl
theorem gAll_true (l : List D) : gAll (.lst (l.map fun _ => D.bl true)) = some (.v (.bl true)) := by
  have h : ∀ l : List D, blsOf (l.map fun _ => D.bl true) = some (l.map fun _ => true) := by
    intro l
    induction l with
    | nil => rfl
    | cons a l ih => simp only [List.map_cons, blsOf, ih, Option.map_some]
  show (blsOf _).map _ = _
  rw [h]
  simp
theorem gLen_str {y : Str} (h : y.length ≤ 16777216) : gLen (.str y) = some (.v (.int (y.length : Nat))) := by
  show Option.map _ (ifB (fitN y.length) (some y.length)) = _
  rw [show fitN y.length = true from decide_eq_true h]
  rfl
theorem atI_first {α : Type} {c : α} {r : List α} : atI (c :: r) 0 = some c := by
  unfold atI ixN
  rw [if_pos (by omega), if_pos (by simp only [List.length_cons]; omega)]
  rfl
theorem gIx0_str {y : Str} {c : Nat} {r : List Nat} (h : y.length ≤ 16777216) (e : y.cps.toList = c :: r) : gIx (.str y) (.int 0) = some (.v (.str ⟨#[c]⟩)) := by
  show ifB (fitN y.length) ((atI y.cps.toList 0).map fun c => Rv.v (.str ⟨#[c]⟩)) = _
  rw [show fitN y.length = true from decide_eq_true h, e, atI_first]
  rfl
theorem gIntS_nS {n : Nat} (h : n < 100000) : gIntS (.str (nS n)) = some (.v (.int (n : Nat))) := by
  have hl := nS_len h
  have e := intText_digits (x := nS n) (TL.numL_digits n) (TL.numL_ne n) (by omega)
  show (match intText? (nS n) with | some n' => ifB (decide ((nS n).length ≤ 640)) (some (Rv.v (.int n'))) | none => none) = _
  rw [e, nS_list, TL.numL_val]
  simp only [decide_eq_true (show (nS n).length ≤ 640 by omega)]
  rfl
def niA : DS := dIfS (dOr (dNot (dB (dChain gLe gLe (dC (.int 1)) (dUn gLen (dVar 0)) (dVar 1)))) (dNot (dB (dUn gAll (dLc (dStrI (dVar 0)) (.nm 2) dYes (dOp gIn (dVar 2) (dC (.str "0123456789"))) [2]))))) (dRet (dC .non)) dNext
def niB : DS := dRet (dIf (dAnd (dB (dOp gEq (dOp gIx (dVar 0) (dC (.int 0))) (dC (.str "0")))) (dB (dOp gNe (dVar 0) (dC (.str "0"))))) (dC .non) (dUn gIntS (dVar 0)))
theorem ni_eq : body_number_in = dSeq niA niB := rfl
theorem ps_zero : PS "0" := by
  intro c hc
  have : c ∈ ("0" : Str).cps.toList := hc
  have e : ("0" : Str).cps.toList = [48] := by decide +kernel
  rw [e] at this
  simp at this
  omega
section
variable {g : Gst} {Q : Rv → Gst → Prop} {E : Xd → Gst → Prop}
theorem dSeq_at {A B : DS} {D1 : Dn} {s s' : Sd} (hA : ∀ N : Sd → Prop, N s' → A { D1 with nx := N } s) (hB : B D1 s') : dSeq A B D1 s := hA _ hB
theorem dSeq_mid {A B : DS} {D1 : Dn} {s : Sd} (P : Sd → Prop) (hA : ∀ N : Sd → Prop, (∀ s', P s' → N s') → A { D1 with nx := N } s) (hB : ∀ s', P s' → B D1 s') : dSeq A B D1 s := hA _ hB
theorem dSeq_now {A B : DS} {D1 : Dn} {s : Sd} (h : A { D1 with nx := B D1 } s) : dSeq A B D1 s := h
theorem dif_bs {c : DT} {t u : DS} {Dx : Dn} {s s' : Sd} (b : Bool) (hc : ∀ {Q2 : Bool → Sd → Prop} {E2}, Q2 b s' → c s Q2 E2) (h : if b then t Dx s' else u Dx s') : dIfS c t u Dx s := by
  unfold dIfS
  refine hc ?_
  cases b with
  | true => exact h
  | false => exact h
theorem niA_ok {n : Nat} {Dx : Dn} (h : n < 100000) (q : Dx.nx ⟨[some (.v (.str (nS n))), some (.v (.int 5)), none], g⟩) : niA Dx ⟨[some (.v (.str (nS n))), some (.v (.int 5)), none], g⟩ := by
  obtain ⟨h1, h5⟩ := nS_len h
  have hL := gLen_str (y := nS n) (by omega)
  unfold niA
  refine dif_bs false (s' := ⟨[some (.v (.str (nS n))), some (.v (.int 5)), none], g⟩) (fun {Q2 E2} q2 => ?_) q
  simp only [dOr, dNot, dB, dChain, dC, dUn, dVar, nthO, view, bindO, hL, gLe, gI, rB, decide_eq_true (show (1 : Int) ≤ ((nS n).length : Nat) by omega), decide_eq_true (show (((nS n).length : Nat) : Int) ≤ 5 by omega), Bool.not_true, dLc, dStrI, guardB, decide_eq_true (show (nS n).length ≤ 16777216 by omega)]
  refine lc_gen (fun d => ⟨[some (.v (.str (nS n))), some (.v (.int 5)), some (.v d)], g⟩) (fun _ => true) (fun _ => .bl true) (signsD (nS n)) (fun _ _ => rfl) (fun _ _ => rfl) (fun d hd Q1 E1 q1 => q1) (fun d hd _ Q1 E1 q1 => ?_) [] ?_
  · obtain ⟨c, hc, rfl⟩ := List.mem_map.mp hd
    have hd := digit_in (TL.numL_digits n c hc)
    simp only [dOp, dVar, nthO, dC, view, bindO, hd, rB]
    exact q1
  · rw [List.filter_eq_self.mpr (fun _ _ => rfl)]
    simp only [List.nil_append, view, bindO, gAll_true, Bool.not_true]
    exact q2
theorem niB_ok {n : Nat} {Dx : Dn} (h : n < 100000) (q : ∀ e, Dx.rt (.v (.int (n : Nat))) ⟨e, g⟩) : niB Dx ⟨[some (.v (.str (nS n))), some (.v (.int 5)), none], g⟩ := by
  obtain ⟨h1, h5⟩ := nS_len h
  have e0 : ("0" : Str) = ⟨#[48]⟩ := by decide +kernel
  have hi := gIntS_nS h
  by_cases h0 : n = 0
  · subst h0
    have ez : nS 0 = ⟨#[48]⟩ := by unfold nS; rw [numL_zero]
    have hx := gIx0_str (y := nS 0) (c := 48) (r := []) (by omega) (by rw [nS_list, numL_zero])
    have g1 : gEq (.str ⟨#[48]⟩) (.str "0") = rB true := by rw [gEq_str (strOk_of (by rw [← e0]; exact ps_zero)) (strOk_of ps_zero), e0]; rfl
    have g2 : gNe (.str (nS 0)) (.str "0") = rB false := by rw [gNe_str (strOk_of (nS_ps 0)) (strOk_of ps_zero), ez, e0]; rfl
    simp only [niB, dRet, dIf, dAnd, dB, dOp, dVar, nthO, dC, view, bindO, hx, g1, g2, rB, dUn, hi]
    exact q _
  · obtain ⟨c, r, e, hc⟩ := nS_head n (by omega)
    have hx := gIx0_str (y := nS n) (c := c) (r := r) (by omega) (by rw [nS_list, e])
    have hps : PS ⟨#[c]⟩ := fun d hd => by
      have hd' : d ∈ [c] := hd
      have : d = c := by simpa using hd'
      subst this
      exact nS_ps n d (by rw [nS_list, e]; exact List.mem_cons_self ..)
    have g1 : gEq (.str ⟨#[c]⟩) (.str "0") = rB false := by
      rw [gEq_str (strOk_of hps) (strOk_of ps_zero), e0]
      have : ((⟨#[c]⟩ : Str) == ⟨#[48]⟩) = false := by
        refine beq_eq_false_iff_ne.mpr fun z => hc ?_
        injection z with z
        have := congrArg Array.toList z
        simpa using this
      rw [this]
    simp only [niB, dRet, dIf, dAnd, dB, dOp, dVar, nthO, dC, view, bindO, hx, g1, rB, dUn, hi]
    exact q _
theorem number_ok {n : Nat} (h : n < 100000) (q : Q (.v (.int (n : Nat))) g) : den_number_in [.str (nS n), .int 5] g Q E := by
  unfold den_number_in
  rw [ni_eq]
  unfold dFn
  show dSeq niA niB _ ⟨[some (.v (.str (nS n))), some (.v (.int 5)), none], g⟩
  apply dSeq_now
  apply niA_ok h
  apply niB_ok h
  intro e
  exact q
end

/-! ### joined and cut texts -/
def tailL (c : Nat) : List (List Nat) → List Nat
  | [] => []
  | y :: r => c :: (y ++ tailL c r)
def joinL (c : Nat) : List (List Nat) → List Nat
  | [] => []
  | x :: r => x ++ tailL c r
theorem fold_tail (c : Nat) : ∀ (r : List Str) (a : Array Nat), (r.foldl (fun acc p => acc ++ #[c] ++ p.cps) a).toList = a.toList ++ tailL c (r.map fun y => y.cps.toList)
  | [], a => by simp [tailL]
  | y :: r, a => by
    rw [List.foldl_cons, fold_tail c r, List.map_cons]
    simp [tailL]
theorem join_list (c : Nat) (ys : List Str) : (Txt.join ⟨#[c]⟩ ys).cps.toList = joinL c (ys.map fun y => y.cps.toList) := by
  show ((ys.drop 1).foldl (fun acc p => acc ++ #[c] ++ p.cps) (ys.headD Str.empty).cps).toList = _
  rw [fold_tail]
  cases ys with
  | nil => rfl
  | cons y r => rfl
theorem take_free {c : Nat} {x : List Nat} {r : List (List Nat)} (h : c ∉ x) : (x ++ tailL c r).takeWhile (fun d => d != c) = x ∧ (x ++ tailL c r).dropWhile (fun d => d != c) = tailL c r := by
  induction x with
  | nil => cases r <;> simp [tailL]
  | cons a x ih =>
    have ha : (a != c) = true := by
      rw [bne_iff_ne]
      intro z
      exact h (by rw [z]; exact List.mem_cons_self ..)
    obtain ⟨h1, h2⟩ := ih fun z => h (List.mem_cons_of_mem _ z)
    simp only [List.cons_append, List.takeWhile_cons, List.dropWhile_cons, ha, if_true, h1, h2]
    exact ⟨trivial, trivial⟩
theorem joinL_inj {c : Nat} : ∀ {xs ys : List (List Nat)}, (∀ x ∈ xs, c ∉ x) → (∀ y ∈ ys, c ∉ y) → xs ≠ [] → ys ≠ [] → joinL c xs = joinL c ys → xs = ys
  | [], _, _, _, h, _, _ => (h rfl).elim
  | _, [], _, _, _, h, _ => (h rfl).elim
  | x :: r, y :: t, hx, hy, _, _, e => by
    have e' : x ++ tailL c r = y ++ tailL c t := e
    obtain ⟨u1, d1⟩ := take_free (r := r) (hx x (List.mem_cons_self ..))
    obtain ⟨u2, d2⟩ := take_free (r := t) (hy y (List.mem_cons_self ..))
    rw [e'] at u1 d1
    have exy : x = y := u1.symm.trans u2
    have ett : tailL c r = tailL c t := d1.symm.trans d2
    subst exy
    cases r with
    | nil =>
      cases t with
      | nil => rfl
      | cons y2 t2 => simp [tailL] at ett
    | cons x2 r2 =>
      cases t with
      | nil => simp [tailL] at ett
      | cons y2 t3 =>
        have : joinL c (x2 :: r2) = joinL c (y2 :: t3) := by
          simp only [tailL, List.cons.injEq, true_and] at ett
          exact ett
        rw [joinL_inj (fun z hz => hx z (List.mem_cons_of_mem _ hz)) (fun z hz => hy z (List.mem_cons_of_mem _ hz)) (by simp) (by simp) this]
theorem str_ext {a b : Str} (h : a.cps.toList = b.cps.toList) : a = b := by
  obtain ⟨⟨a⟩⟩ := a
  obtain ⟨⟨b⟩⟩ := b
  cases h
  rfl
theorem map_inj : ∀ {xs ys : List Str}, (xs.map fun y => y.cps.toList) = (ys.map fun y => y.cps.toList) → xs = ys
  | [], [], _ => rfl
  | [], _ :: _, h => by simp at h
  | _ :: _, [], h => by simp at h
  | x :: xs, y :: ys, h => by
    simp only [List.map_cons, List.cons.injEq] at h
    rw [str_ext h.1, map_inj h.2]
theorem split_ne (x y : Str) : Txt.split x y ≠ [] := by
  unfold Txt.split
  split
  · simp
  · split
    · simp
    · intro z
      have := PyProof.Rows.len_partsBetween x (Builtin.Str.occurrences x y 0 x.length (x.length + 1)) y.length
      rw [z] at this
      simp at this
theorem split_join {c : Nat} {ys : List Str} (hne : ys ≠ []) (hf : ∀ y ∈ ys, c ∉ y.cps.toList) : Txt.split (Txt.join ⟨#[c]⟩ ys) ⟨#[c]⟩ = ys := by
  refine map_inj (joinL_inj (c := c) ?_ ?_ ?_ ?_ ?_)
  · intro x hx
    obtain ⟨p, hp, rfl⟩ := List.mem_map.mp hx
    exact StrLaws.split_free _ _ _ hp
  · intro x hx
    obtain ⟨p, hp, rfl⟩ := List.mem_map.mp hx
    exact hf p hp
  · intro z
    exact split_ne _ _ (List.map_eq_nil_iff.mp z)
  · intro z
    exact hne (List.map_eq_nil_iff.mp z)
  · rw [← join_list, ← join_list]
    have h1 := StrLaws.join_split (Txt.join ⟨#[c]⟩ ys) ⟨#[c]⟩
    have h2 : Txt.join ⟨#[c]⟩ (Txt.split (Txt.join ⟨#[c]⟩ ys) ⟨#[c]⟩) = Txt.join ⟨#[c]⟩ ys := by
      have := StrLaws.glued_eq_join ⟨#[c]⟩ (Txt.split (Txt.join ⟨#[c]⟩ ys) ⟨#[c]⟩)
      exact this.trans h1
    rw [h2]
theorem strsD_map (ys : List Str) : strsD (ys.map D.str) = some ys := by
  induction ys with
  | nil => rfl
  | cons y ys ih => simp only [List.map_cons, strsD, ih, Option.map_some]
theorem sum_le {B : Nat} : ∀ {ys : List Str}, (∀ y ∈ ys, y.length ≤ B) → (ys.map fun y => y.length).sum ≤ B * ys.length
  | [], _ => by simp
  | y :: ys, h => by
    have ih := sum_le (ys := ys) fun z hz => h z (List.mem_cons_of_mem _ hz)
    have := h y (List.mem_cons_self ..)
    simp only [List.map_cons, List.sum_cons, List.length_cons, Nat.mul_succ]
    omega
theorem join_len {c B : Nat} {ys : List Str} (h : ∀ y ∈ ys, y.length ≤ B) : (Txt.join ⟨#[c]⟩ ys).length ≤ (B + 1) * ys.length := by
  have h1 := StrLaws.join_length_le ⟨#[c]⟩ ys
  have h2 : (Txt.join ⟨#[c]⟩ ys) = Str.join ⟨#[c]⟩ ys := StrLaws.glued_eq_join ⟨#[c]⟩ ys
  rw [h2]
  have h3 := sum_le h
  have h4 : (⟨#[c]⟩ : Str).length = 1 := rfl
  rw [h4] at h1
  rw [Nat.add_mul]
  omega
theorem gJoin_lst {c B : Nat} {ys : List Str} (h : ∀ y ∈ ys, y.length ≤ B) (hb : (B + 1) * ys.length ≤ 16777216) : gJoin (.str ⟨#[c]⟩) (.lst (ys.map D.str)) = some (.v (.str (Txt.join ⟨#[c]⟩ ys))) := by
  show gJoin.bindR (strsD (ys.map D.str)) _ = _
  rw [strsD_map]
  have h3 := sum_le h
  have h4 : (⟨#[c]⟩ : Str).length = 1 := rfl
  rw [Nat.add_mul] at hb
  show ifB (decide ((ys.map fun y => y.length).sum + ys.length * (⟨#[c]⟩ : Str).length ≤ 16777216)) _ = _
  rw [h4, decide_eq_true (by omega)]
  rfl
theorem gSplit_join {c : Nat} {ys : List Str} (hne : ys ≠ []) (hf : ∀ y ∈ ys, c ∉ y.cps.toList) (hb : (Txt.join ⟨#[c]⟩ ys).length + 2 ≤ 16777216) : gSplit (.str (Txt.join ⟨#[c]⟩ ys)) (.str ⟨#[c]⟩) = some (.ol (ys.map D.str)) := by
  show ifB (!((⟨#[c]⟩ : Str).length == 0) && decide ((Txt.join ⟨#[c]⟩ ys).length + 2 ≤ 16777216)) _ = _
  rw [decide_eq_true hb, split_join hne hf]
  rfl

/-! ### the words of a rig -/
abbrev sp : Str := ⟨#[32]⟩
abbrev nl : Str := ⟨#[10]⟩
abbrev sl : Str := ⟨#[47]⟩
theorem e_sp : (" " : Str) = sp := by decide +kernel
theorem e_nl : ("\n" : Str) = nl := by decide +kernel
theorem e_sl : ("/" : Str) = sl := by decide +kernel
def nI (i : Int) : Str := nS i.toNat
def optS : Option Int → Str
  | none => "-"
  | some m => nI m
def moveW (m : Mv) : List Str := ["move", nI m.b, nI m.l, optS m.m, nI m.e]
def sagW (r : Rg) : Str := Txt.join sl [nI r.st, nI r.sb]
def tailW (r : Rg) : List (List Str) := [["full", nI r.full], ["limit", nI r.limit], ["sag", sagW r]]
def linesW (r : Rg) : List (List Str) := ("loads" :: r.loads.map nI) :: (r.moves.map moveW ++ tailW r)
def textR (r : Rg) : Str := Txt.join nl ((linesW r).map (Txt.join sp))
theorem gStr_int {i : Int} (h0 : 0 ≤ i) (h1 : i ≤ 10000) : gStr (.int i) = some (.v (.str (nI i))) := by
  obtain ⟨n, rfl⟩ := Int.eq_ofNat_of_zero_le h0
  exact gStr_nat (by omega)
theorem fmt_int {i : Int} (h0 : 0 ≤ i) : Str.ofString (toString i) = nI i := by
  obtain ⟨n, rfl⟩ := Int.eq_ofNat_of_zero_le h0
  exact PyProof.Rows.text_ofNat n
theorem log_int {i : Int} (h0 : 0 ≤ i) (h1 : i ≤ 10000) : decide (i.natAbs.log2 < 1920) = true := by
  obtain ⟨n, rfl⟩ := Int.eq_ofNat_of_zero_le h0
  have hh := gStr_nat (n := n) (by omega)
  have h2 : gStr (.int (n : Nat)) = ifB (decide (((n : Nat) : Int).natAbs.log2 < 1920)) (some (.v (.str (Str.ofString (toString ((n : Nat) : Int)))))) := rfl
  rw [h2] at hh
  cases hd : decide (((n : Nat) : Int).natAbs.log2 < 1920) with
  | true => rfl
  | false => rw [hd] at hh; cases hh
theorem nI_len {i : Int} (h0 : 0 ≤ i) (h1 : i ≤ 10000) : 1 ≤ (nI i).length ∧ (nI i).length ≤ 5 := nS_len (by omega)
/-- a word: small signs, no blank, no end of line -/
structure Wd (y : Str) : Prop where
  ps : PS y
  nb : 32 ∉ y.cps.toList
  ne : 10 ∉ y.cps.toList
  le : y.length ≤ 11
theorem nI_wd {i : Int} (h0 : 0 ≤ i) (h1 : i ≤ 10000) : Wd (nI i) where
  ps := nS_ps _
  nb := TL.numL_free (.inl (by decide))
  ne := TL.numL_free (.inl (by decide))
  le := by have := (nI_len h0 h1).2; omega
theorem const_wd {y : Str} (h : (y.cps.toList.all fun c => decide (c < 256) && c != 32 && c != 10) = true) (hl : y.length ≤ 11) : Wd y := by
  have h' := List.all_eq_true.mp h
  refine ⟨fun c hc => ?_, fun hc => ?_, fun hc => ?_, hl⟩
  · have := h' c hc
    simp only [Bool.and_eq_true, decide_eq_true_eq] at this
    exact this.1.1
  · have := h' 32 hc
    simp at this
  · have := h' 10 hc
    simp at this
theorem wd_loads : Wd "loads" := const_wd (by decide +kernel) (by decide +kernel)
theorem wd_move : Wd "move" := const_wd (by decide +kernel) (by decide +kernel)
theorem wd_full : Wd "full" := const_wd (by decide +kernel) (by decide +kernel)
theorem wd_limit : Wd "limit" := const_wd (by decide +kernel) (by decide +kernel)
theorem wd_sag : Wd "sag" := const_wd (by decide +kernel) (by decide +kernel)
theorem wd_dash : Wd "-" := const_wd (by decide +kernel) (by decide +kernel)
theorem wd_none : Wd "none" := const_wd (by decide +kernel) (by decide +kernel)
theorem joinL_mem {c d : Nat} : ∀ {xs : List (List Nat)}, d ∈ joinL c xs → d = c ∨ ∃ x ∈ xs, d ∈ x := by
  have ht : ∀ {r : List (List Nat)}, d ∈ tailL c r → d = c ∨ ∃ x ∈ r, d ∈ x := by
    intro r
    induction r with
    | nil => intro h; cases h
    | cons y r ih =>
      intro h
      simp only [tailL, List.mem_cons, List.mem_append] at h
      rcases h with h | h | h
      · exact .inl h
      · exact .inr ⟨y, List.mem_cons_self .., h⟩
      · rcases ih h with h | ⟨x, hx, h⟩
        · exact .inl h
        · exact .inr ⟨x, List.mem_cons_of_mem _ hx, h⟩
  intro xs h
  cases xs with
  | nil => cases h
  | cons x r =>
    rcases List.mem_append.mp h with h | h
    · exact .inr ⟨x, List.mem_cons_self .., h⟩
    · rcases ht h with h | ⟨y, hy, h⟩
      · exact .inl h
      · exact .inr ⟨y, List.mem_cons_of_mem _ hy, h⟩
theorem join_mem {c d : Nat} {ys : List Str} (h : d ∈ (Txt.join ⟨#[c]⟩ ys).cps.toList) : d = c ∨ ∃ y ∈ ys, d ∈ y.cps.toList := by
  rw [join_list] at h
  rcases joinL_mem h with h | ⟨x, hx, h⟩
  · exact .inl h
  · obtain ⟨y, hy, rfl⟩ := List.mem_map.mp hx
    exact .inr ⟨y, hy, h⟩
theorem sag_wd {r : Rg} (hr : RgN r) : Wd (sagW r) := by
  have a := nI_wd (i := r.st) (by have := hr.s0; omega) hr.s1
  have b := nI_wd (i := r.sb) (by have := hr.b0; omega) hr.b1
  have hm : ∀ {d : Nat}, d ∈ (sagW r).cps.toList → d = 47 ∨ d ∈ (nI r.st).cps.toList ∨ d ∈ (nI r.sb).cps.toList := fun {d} h => by
    rcases join_mem h with h | ⟨y, hy, h⟩
    · exact .inl h
    · simp only [List.mem_cons, List.not_mem_nil, or_false] at hy
      rcases hy with rfl | rfl
      · exact .inr (.inl h)
      · exact .inr (.inr h)
  refine ⟨fun c hc => ?_, fun hc => ?_, fun hc => ?_, ?_⟩
  · rcases hm hc with rfl | h | h
    · decide
    · exact a.ps c h
    · exact b.ps c h
  · rcases hm hc with h | h | h
    · cases h
    · exact a.nb h
    · exact b.nb h
  · rcases hm hc with h | h | h
    · cases h
    · exact a.ne h
    · exact b.ne h
  · have h1 := (nI_len (i := r.st) (by have := hr.s0; omega) hr.s1).2
    have h2 := (nI_len (i := r.sb) (by have := hr.b0; omega) hr.b1).2
    have h3 := join_len (c := 47) (B := 5) (ys := [nI r.st, nI r.sb]) (fun y hy => by
      simp only [List.mem_cons, List.not_mem_nil, or_false] at hy
      rcases hy with rfl | rfl <;> assumption)
    have h4 : (sagW r).cps.toList = (nI r.st).cps.toList ++ 47 :: ((nI r.sb).cps.toList ++ []) := join_list 47 _
    have h5 : (sagW r).length = (sagW r).cps.toList.length := by simp [Str.length]
    have h6 : (nI r.st).length = (nI r.st).cps.toList.length := by simp [Str.length]
    have h7 : (nI r.sb).length = (nI r.sb).cps.toList.length := by simp [Str.length]
    rw [h5, h4]
    simp only [List.length_append, List.length_cons, List.length_nil]
    omega
theorem load_wd {r : Rg} (hr : RgN r) {y : Str} (h : y ∈ r.loads.map nI) : Wd y := by
  obtain ⟨i, hi, rfl⟩ := List.mem_map.mp h
  have := hr.loads.rng i hi
  exact nI_wd this.1 (by omega)
theorem move_wd {n : Int} {m : Mv} (h : MvN n m) (hn : n ≤ 100) {y : Str} (hy : y ∈ moveW m) : Wd y := by
  simp only [moveW, List.mem_cons, List.not_mem_nil, or_false] at hy
  have := h.b0; have := h.b1; have := h.e0; have := h.e1; have := h.l0; have := h.l1
  rcases hy with rfl | rfl | rfl | rfl | rfl
  · exact wd_move
  · exact nI_wd (by omega) (by omega)
  · exact nI_wd (by omega) (by omega)
  · cases hm : m.m with
    | none => exact wd_dash
    | some x =>
      have := h.m1 x hm
      exact nI_wd (by omega) (by omega)
  · exact nI_wd (by omega) (by omega)
theorem lines_wd {r : Rg} (hr : RgN r) {ws : List Str} (h : ws ∈ linesW r) : ws ≠ [] ∧ ws.length ≤ 7 ∧ ∀ y ∈ ws, Wd y := by
  have h6 := hr.loads.six
  simp only [linesW, tailW, List.mem_cons, List.mem_append, List.mem_map, List.not_mem_nil, or_false] at h
  rcases h with rfl | ⟨m, hm, rfl⟩ | rfl | rfl | rfl
  · refine ⟨by simp, by simp; omega, fun y hy => ?_⟩
    rcases List.mem_cons.mp hy with rfl | hy
    · exact wd_loads
    · exact load_wd hr hy
  · exact ⟨by simp [moveW], by simp [moveW], fun y hy => move_wd (hr.moves m hm) (by omega) hy⟩
  · refine ⟨by simp, by simp, fun y hy => ?_⟩
    simp only [List.mem_cons, List.not_mem_nil, or_false] at hy
    rcases hy with rfl | rfl
    · exact wd_full
    · exact nI_wd (by have := hr.f0; omega) (by have := hr.f1; omega)
  · refine ⟨by simp, by simp, fun y hy => ?_⟩
    simp only [List.mem_cons, List.not_mem_nil, or_false] at hy
    rcases hy with rfl | rfl
    · exact wd_limit
    · exact nI_wd (by have := hr.l0; omega) (by have := hr.l1; omega)
  · refine ⟨by simp, by simp, fun y hy => ?_⟩
    simp only [List.mem_cons, List.not_mem_nil, or_false] at hy
    rcases hy with rfl | rfl
    · exact wd_sag
    · exact sag_wd hr
theorem line_len {r : Rg} (hr : RgN r) {y : Str} (h : y ∈ (linesW r).map (Txt.join sp)) : y.length ≤ 100 := by
  obtain ⟨ws, hw, rfl⟩ := List.mem_map.mp h
  obtain ⟨_, h7, hy⟩ := lines_wd hr hw
  have h1 : (Txt.join sp ws).length ≤ (11 + 1) * ws.length := join_len (c := 32) (B := 11) (ys := ws) fun y hy' => (hy y hy').le
  omega
theorem line_free {r : Rg} (hr : RgN r) {y : Str} (h : y ∈ (linesW r).map (Txt.join sp)) : 10 ∉ y.cps.toList := fun hc => by
  obtain ⟨ws, hw, rfl⟩ := List.mem_map.mp h
  obtain ⟨_, _, hy⟩ := lines_wd hr hw
  rcases join_mem hc with h | ⟨y, hy', h⟩
  · cases h
  · exact (hy y hy').ne h
theorem lines_few {r : Rg} (hr : RgN r) : (linesW r).length ≤ 14 := by
  have := hr.ten
  simp [linesW, tailW]
  omega
theorem text_len {r : Rg} (hr : RgN r) : (textR r).length ≤ 2000 := by
  have h1 := join_len (c := 10) (B := 100) (ys := (linesW r).map (Txt.join sp)) fun y hy => line_len hr hy
  have h2 := lines_few hr
  rw [List.length_map] at h1
  have : (textR r).length ≤ 101 * (linesW r).length := h1
  omega

end Sag
namespace Sag
open PySem PySem.Spec PyProof.Rows L2 DL
/-! ### rig_text -/
theorem dvar_ol {i : Nat} {s : Sd} {l : List D} {Q : DK} {E : DX} (h : nthO s.e i = some (.ol l)) (q : Q (.al i) s) : dVar i s Q E := by
  unfold dVar
  rw [h]
  exact q
theorem dvar_v {i : Nat} {s : Sd} {d : D} {Q : DK} {E : DX} (h : nthO s.e i = some (.v d)) (q : Q (.v d) s) : dVar i s Q E := by
  unfold dVar
  rw [h]
  exact q
theorem dcons_now {te : DE} {ts : DA} {s : Sd} {K : List D → Sd → Prop} {E : DX} (h : te s (fun r s1 => bindO (DL.settle r s1) fun p => ts p.2 (fun ds s3 => K (p.1 :: ds) s3) E) E) : dCons te ts s K E := h
theorem dcons_v {te : DE} {ts : DA} {s s' : Sd} {K : List D → Sd → Prop} {E : DX} {d : D} (h : ∀ {Q : DK} {E : DX}, Q (.v d) s' → te s Q E) (q : ts s' (fun ds s3 => K (d :: ds) s3) E) : dCons te ts s K E := by
  unfold dCons
  refine h ?_
  exact q
theorem call_gen {F : Den} {n : Nat} {dds : List D} {t : DA} {s : Sd} {Q1 : DK} {E1 : DX} (args : List D) (s' : Sd) (hte : ∀ (K : List D → Sd → Prop) (E2 : DX), K args s' → t s K E2) (hn : (args.length == n) = true) (q : F (args ++ dds) s'.g (fun r g' => Q1 r ⟨s'.e, g'⟩) (fun x g' => E1 x ⟨s'.e, g'⟩)) : dCall F n dds t s Q1 E1 := by
  unfold dCall
  refine hte _ _ ?_
  rw [hn]
  exact q
/-- " ".join(..) of words that are told -/
theorem ms_join {te : DE} {sep : Str} {c B : Nat} {s s' : Sd} {Q : DK} {E : DX} {ys : List Str} {r : Rv} (hs : sep = ⟨#[c]⟩) (h : ∀ {Q : DK} {E : DX}, Q r s' → te s Q E) (hv : view s' r = some (.lst (ys.map D.str))) (hB : ∀ y ∈ ys, y.length ≤ B) (hb : (B + 1) * ys.length ≤ 16777216)
    (q : Q (.v (.str (Txt.join ⟨#[c]⟩ ys))) s') : dMS gJoin (dC (.str sep)) te s Q E := by
  subst hs
  unfold dMS dC
  show te s (fun r2 s2 => bindO (view s2 r2) fun d2 => bindO (gJoin (.str ⟨#[c]⟩) d2) fun z => Q z s2) E
  refine h ?_
  rw [hv]
  show bindO (gJoin (.str ⟨#[c]⟩) (.lst (ys.map D.str))) _
  rw [gJoin_lst hB hb]
  exact q
def strOf (d : D) : D := match d with
  | .int i => .str (nI i)
  | _ => .non
/-- [str(x) for x in ns] -/
theorem lc_strs {k : Nat} {s0 : Sd} {ns : List Int} {Q : DK} {E : DX} (hb : ∀ i ∈ ns, 0 ≤ i ∧ i ≤ 10000) (hn : ∀ d, nthO ((s0.wipe [k]).put k (.v d)).e k = some (.v d)) (hk : ∀ d, s0.back ((s0.wipe [k]).put k (.v d)) [k] = s0) (q : Q (.ol ((ns.map nI).map D.str)) s0) :
    lcD (.nm k) dYes (dUn gStr (dVar k)) [k] s0 Q E (ns.map D.int) [] s0 := by
  refine lc_map (fun d => strOf d) hk (fun d hd Q1 E1 q1 => ?_) ?_
  · obtain ⟨i, hi, rfl⟩ := List.mem_map.mp hd
    have := hb i hi
    unfold dUn
    refine dvar_v (hn _) ?_
    simp only [view, bindO, gStr_int this.1 this.2]
    exact q1
  · have e : (ns.map D.int).map (fun d => strOf d) = (ns.map nI).map D.str := by
      rw [List.map_map, List.map_map]
      rfl
    rw [e]
    exact q
section
variable {g : Gst}
theorem need_rig_rg {r : Rg} {Q : Rv → Gst → Prop} {E : Xd → Gst → Prop} (hr : RgN r) (q : Q (.v (rgD r)) g) : den_need_rig [rgD r] g Q E := by
  refine need_rig_ok (rg_gd hr).1 ?_
  have := rg_good hr
  generalize faultD (rgD r) = f at this
  subst this
  exact q
end
theorem app_list (a b : Str) : (a ++ b).cps.toList = a.cps.toList ++ b.cps.toList := by
  show (a.cps ++ b.cps).toList = _
  simp
theorem len_list (a : Str) : a.length = a.cps.toList.length := by simp [Str.length]
theorem len_app (a b : Str) : (a ++ b).length = a.length + b.length := by
  rw [len_list, len_list, len_list, app_list, List.length_append]
theorem empty_list : Str.empty.cps.toList = [] := rfl
/-! ### loads, moves, one word -/
theorem app_d {k : Nat} {acc : List D} {te : DE} {s : Sd} {d : D} {Dx : Dn} (hs : nthO s.e k = some (.ol acc)) (ha : acc.length ≤ 2000) (h : ∀ (Q : DK) (E : DX), Q (.v d) s → te s Q E) (q : Dx.nx (s.put k (.ol (acc ++ [d])))) : dDrop (dAppend (dVar k) te) Dx s := by
  unfold dDrop dAppend
  refine dvar_ol hs ?_
  simp only [olAt, hs, bindO]
  refine h _ _ ?_
  have hf : fitN (acc.length + 1) = true := decide_eq_true (by omega)
  simp only [DL.settle, bindO, olAt, hs, hf, guardB]
  exact q
theorem num_ok {g : Gst} {Q : Rv → Gst → Prop} {E : Xd → Gst → Prop} {i : Int} (h0 : 0 ≤ i) (h1 : i ≤ 10000) (q : Q (.v (.int i)) g) : den_number_in [.str (nI i), .int 5] g Q E := by
  refine number_ok (n := i.toNat) (by omega) ?_
  have : ((i.toNat : Nat) : Int) = i := by omega
  rw [this]
  exact q
theorem nI_ps (i : Int) : PS (nI i) := nS_ps _
theorem isN_int {i : Int} : gIsN (.int i) .non = rB false := rfl

theorem lc_res {pat : Pat} {vs : List Nat} {te : DE} {s0 : Sd} {Q' : DK} {E' : DX} (st : D → Sd) (r : D → Rv) (f : D → D) (hr : ∀ d s, settle (r d) s = some (f d, s)) : ∀ (l : List D), (∀ d ∈ l, patStore pat d (s0.wipe vs) = some (st d)) → (∀ d ∈ l, s0.back (st d) vs = s0) →
    (∀ d ∈ l, ∀ (Q1 : DK) E1, Q1 (r d) (st d) → te (st d) Q1 E1) → ∀ acc, Q' (.ol (acc ++ l.map f)) s0 → lcD pat dYes te vs s0 Q' E' l acc s0
  | [], _, _, _, acc, q => by simpa [lcD] using q
  | d :: l, hp, hb, he, acc, q => by
    have ih := lc_res (Q' := Q') (te := te) (E' := E') st r f hr l (fun x hx => hp x (List.mem_cons_of_mem _ hx)) (fun x hx => hb x (List.mem_cons_of_mem _ hx)) fun x hx => he x (List.mem_cons_of_mem _ hx)
    have m := List.mem_cons_self (a := d) (l := l)
    rw [lcD, hp d m]
    show te (st d) _ E'
    refine he d m _ _ ?_
    rw [hr]
    show lcD pat dYes te vs s0 Q' E' l (acc ++ [f d]) (s0.back (st d) vs)
    rw [hb d m]
    refine ih _ ?_
    simpa using q
/-! ### lines and words -/
def lnD (ws : List Str) : D := .lst (ws.map D.str)
def wordsD (d : D) : List D := match d with
  | .str y => (Txt.split y sp).map D.str
  | _ => []
/-- the words of a line can be told -/
structure Ln (ws : List Str) : Prop where
  ne : ws ≠ []
  nb : ∀ y ∈ ws, 32 ∉ y.cps.toList
  ps : ∀ y ∈ ws, PS y
  le : (Txt.join sp ws).length ≤ 10000
theorem ln_split {ws : List Str} (h : Ln ws) : gSplit (.str (Txt.join sp ws)) (.str sp) = some (.ol (ws.map D.str)) := gSplit_join h.ne h.nb (by have h' : (Txt.join ⟨#[32]⟩ ws).length ≤ 10000 := h.le; omega)
section
variable {g : Gst} {Q : Rv → Gst → Prop} {E : Xd → Gst → Prop} {Dx : Dn}
theorem need_words_gen {t : Str} {ls : List (List Str)} (ht : gSplit (.str t) (.str nl) = some (.ol ((ls.map (Txt.join sp)).map D.str))) (hw : ∀ ws ∈ ls, Ln ws) (q : Q (.ol (ls.map lnD)) g) : den_need_words [.str t] g Q E := by
  unfold den_need_words body_need_words dFn
  apply dSeq_at (s' := ⟨[some (.v (.str t)), none], g⟩)
  · intro N h
    refine dif_bs false (s' := ⟨[some (.v (.str t)), none], g⟩) (fun {Q2 E2} q2 => ?_) h
    exact q2
  unfold dRet dLc dSeqI dMS
  refine dvar_v rfl ?_
  simp only [view, bindO, dC, e_nl, ht, DL.settle, seqOf]
  refine lc_res (fun d => ⟨[some (.v (.str t)), some (.v d)], g⟩) (fun d => .ol (wordsD d)) (fun d => .lst (wordsD d)) (fun _ _ => rfl) ((ls.map (Txt.join sp)).map D.str) (fun _ _ => rfl) (fun _ _ => rfl) (fun d hd Q1 E1 q1 => ?_) [] ?_
  · obtain ⟨y, hy, rfl⟩ := List.mem_map.mp hd
    obtain ⟨ws, hws, rfl⟩ := List.mem_map.mp hy
    have h1 := ln_split (hw ws hws)
    have h2 : Txt.split (Txt.join sp ws) sp = ws := split_join (hw ws hws).ne (hw ws hws).nb
    have h3 : wordsD (.str (Txt.join sp ws)) = ws.map D.str := by show (Txt.split (Txt.join sp ws) sp).map D.str = _; rw [h2]
    rw [h3] at q1
    simp only [dVar, nthO, view, bindO, e_sp, h1]
    exact q1
  · have h3 : ((ls.map (Txt.join sp)).map D.str).map (fun d => D.lst (wordsD d)) = ls.map lnD := by
      rw [List.map_map, List.map_map]
      refine List.map_congr_left fun ws hws => ?_
      have h2 : Txt.split (Txt.join sp ws) sp = ws := split_join (hw ws hws).ne (hw ws hws).nb
      show D.lst ((Txt.split (Txt.join sp ws) sp).map D.str) = D.lst (ws.map D.str)
      rw [h2]
    rw [h3]
    exact q
theorem gLen_l {l : List D} : gLen (.lst l) = some (.v (.int (l.length : Nat))) := rfl
theorem gIx_lk {l : List D} {k : Nat} {d : D} (h : l[k]? = some d) : gIx (.lst l) (.int (k : Nat)) = some (.v d) := by
  show (atI l (k : Nat)).map Rv.v = _
  rw [atI_nat0 h]
  rfl
theorem gIx_lk0 {l : List D} {d : D} (h : l[0]? = some d) : gIx (.lst l) (.int 0) = some (.v d) := gIx_lk (k := 0) h
theorem gIx_lk1 {l : List D} {d : D} (h : l[1]? = some d) : gIx (.lst l) (.int 1) = some (.v d) := gIx_lk (k := 1) h
theorem words_at_ok {ls : List (List Str)} {k : Nat} {w : Str} {ws : List Str} (h : ls[k]? = some (w :: ws)) (hp : PS w) (q : Q (.v (lnD (w :: ws))) g) : den_words_at [.lst (ls.map lnD), .int (k : Nat), .str w] g Q E := by
  have hk : k < ls.length := by
    rcases Nat.lt_or_ge k ls.length with z | z
    · exact z
    · rw [List.getElem?_eq_none z] at h; cases h
  have h1 : (ls.map lnD)[k]? = some (lnD (w :: ws)) := by rw [List.getElem?_map, h]; rfl
  have h2 := gIx_lk h1
  have h3 : gIx (lnD (w :: ws)) (.int 0) = some (.v (.str w)) := gIx_lk0 (l := (w :: ws).map D.str) rfl
  have h4 : gNe (.str w) (.str w) = rB false := by rw [gNe_str (strOk_of hp) (strOk_of hp), beq_self_eq_true]; rfl
  have h5 : gGe (.int (k : Nat)) (.int ((ls.map lnD).length : Nat)) = rB false := by
    show rB (decide ((((ls.map lnD).length : Nat) : Int) ≤ (k : Nat))) = _
    rw [List.length_map, decide_eq_false (by omega)]
  generalize ls.map lnD = L at h1 h2 h5
  unfold den_words_at body_words_at dFn
  show dSeq _ _ _ ⟨[some (.v (.lst L)), some (.v (.int (k : Nat))), some (.v (.str w))], g⟩
  apply dSeq_at (s' := ⟨[some (.v (.lst L)), some (.v (.int (k : Nat))), some (.v (.str w))], g⟩)
  · intro N h
    refine dif_bs false (s' := ⟨[some (.v (.lst L)), some (.v (.int (k : Nat))), some (.v (.str w))], g⟩) (fun {Q2 E2} q2 => ?_) h
    simp only [dOr, dB, dOp, dUn, dVar, nthO, dC, view, bindO, gLen_l, h5, rB, h2, h3, h4]
    exact q2
  simp only [dRet, dOp, dVar, nthO, view, bindO, h2]
  exact q
theorem need_count_ok {l : List D} {k a b : Int} (h0 : a ≤ l.length) (h1 : l.length ≤ b) (q : Q (.v .non) g) : den_need_count [.lst l, .int k, .int a, .int b] g Q E := by
  have e0 : gLt (.int (l.length : Nat)) (.int a) = rB false := by
    show rB (decide (((l.length : Nat) : Int) < a)) = _
    rw [decide_eq_false (by omega)]
  have e1 : gGt (.int (l.length : Nat)) (.int b) = rB false := by
    show rB (decide (b < ((l.length : Nat) : Int))) = _
    rw [decide_eq_false (by omega)]
  unfold den_need_count body_need_count dFn
  show dSeq _ _ _ ⟨[some (.v (.lst l)), some (.v (.int k)), some (.v (.int a)), some (.v (.int b))], g⟩
  apply dSeq_at (s' := ⟨[some (.v (.lst l)), some (.v (.int k)), some (.v (.int a)), some (.v (.int b))], g⟩)
  · intro N h
    refine dif_bs false (s' := ⟨[some (.v (.lst l)), some (.v (.int k)), some (.v (.int a)), some (.v (.int b))], g⟩) (fun {Q2 E2} q2 => ?_) h
    simp only [dB, dOp, dUn, dVar, nthO, view, bindO, gLen_l, e0, rB]
    exact q2
  refine dif_bs false (s' := ⟨[some (.v (.lst l)), some (.v (.int k)), some (.v (.int a)), some (.v (.int b))], g⟩) (fun {Q2 E2} q2 => ?_) q
  simp only [dB, dOp, dUn, dVar, nthO, view, bindO, gLen_l, e1, rB]
  exact q2
/-- "-" is no number -/
theorem number_dash (q : Q (.v .non) g) : den_number_in [.str "-", .int 5] g Q E := by
  unfold den_number_in
  rw [ni_eq]
  unfold dFn
  show dSeq niA niB _ ⟨[some (.v (.str "-")), some (.v (.int 5)), none], g⟩
  apply dSeq_now
  have hL : gLen (.str "-") = some (.v (.int 1)) := by
    have e : ("-" : Str).length = 1 := by decide +kernel
    rw [gLen_str (by rw [e]; decide), e]; rfl
  have hs : signsD "-" = [.str "-"] := by kernel_rfl
  have hi : gIn (.str "-") (.str "0123456789") = rB false := by
    have e : (!(Builtin.Str.occurrences "0123456789" "-" 0 (Str.length "0123456789") 1).isEmpty) = false := by decide +kernel
    show rB _ = _
    rw [e]
  unfold niA
  refine dif_bs true (s' := ⟨[some (.v (.str "-")), some (.v (.int 5)), none], g⟩) (fun {Q2 E2} q2 => ?_) q
  simp only [dOr, dNot, dB, dChain, dC, dUn, dVar, nthO, view, bindO, hL, gLe, gI, rB, decide_eq_true (show (1 : Int) ≤ 1 by decide), decide_eq_true (show (1 : Int) ≤ 5 by decide), Bool.not_true, dLc, dStrI, guardB, decide_eq_true (show (("-" : Str)).length ≤ 16777216 by decide +kernel), hs]
  refine lc_gen (fun d => ⟨[some (.v (.str "-")), some (.v (.int 5)), some (.v d)], g⟩) (fun _ => true) (fun _ => .bl false) [.str "-"] (fun _ _ => rfl) (fun _ _ => rfl) (fun d hd Q1 E1 q1 => q1) (fun d hd _ Q1 E1 q1 => ?_) [] ?_
  · cases List.mem_singleton.mp hd
    simp only [dOp, dVar, nthO, dC, view, bindO, hi, rB]
    exact q1
  · exact q2
end

end Sag
namespace Sag
open PySem PySem.Spec PyProof.Rows L2 DL
/-! ### moves of a rig, texts of runs -/
section
variable {g : Gst} {Q : Rv → Gst → Prop} {E : Xd → Gst → Prop} {Dx : Dn} {x2 x3 : Option Sv}
theorem is_mv_ok {r : Rg} {d : D} (hd : gd d = true) (q : Q (.v (.bl (whD d 0 ((r.moves.length : Int) - 1)))) g) : den_is_move [rgD r, d] g Q E := by
  have hi1 : gIx (rgD r) (.int 1) = some (.v (.lds (r.moves.map mvD))) := rfl
  unfold den_is_move body_is_move dFn dRet
  show dCall den_is_whole 3 [] _ ⟨[some (.v (rgD r)), some (.v d)], g⟩ _ _
  refine call_gen [d, .int 0, .int ((r.moves.length : Int) - 1)] ⟨[some (.v (rgD r)), some (.v d)], g⟩ (fun K E2 q2 => ?_) rfl (is_whole_ok hd q)
  simp only [dCons, dNil, dVar, nthO, DL.settle, bindO, dOp, dUn, dC, view, hi1, gLen_t, List.length_map, DL.gSub]
  exact q2
end
def firstOut (n : Int) : Nat → List D → Option Nat
  | _, [] => none
  | k, d :: l => if whD d 0 (n - 1) then firstOut n (k + 1) l else some k
def wordOf (d : D) : Str := match d with
  | .int i => nI i
  | _ => ""
def runTx (l : List D) : Str := if l.isEmpty then "none" else Txt.join sp (l.map wordOf)
/-- what run_text tells -/
def runT (n : Int) (d : D) : D ⊕ Str := match tupl d with
  | none => .inl (.lds [])
  | some l => if decide ((1000 : Int) < l.length) then .inl (.lds []) else match firstOut n 0 l with
    | some k => .inl (.lds [.int (k : Nat)])
    | none => .inr (runTx l)
def utA : DS := dDrop (dCall den_need_rig 1 [] (dCons (dVar 0) dNil))
def utB : DS := dIfS (dOr (dNot (dB (dIsT gIsTup (dVar 1)))) (dB (dOp gGt (dUn gLen (dVar 1)) (dC (.int 1000))))) (dRaise 3 (dTupK dNil)) dNext
def utCb : DS := dIfS (dNot (dB (dCall den_is_move 2 [] (dCons (dVar 0) (dCons (dVar 3) dNil))))) (dRaise 3 (dTupK (dCons (dVar 2) dNil))) dNext
def utC : DS := dFor (dEnum (dVar 1)) (.tu [2, 3]) utCb
def utD : DS := dRet (dIf (dB (dOp gNe (dVar 1) (dTupK dNil))) (dMS gJoin (dC (.str " ")) (dLc (dSeqI (dVar 1)) (.nm 3) dYes (dUn gStr (dVar 3)) [3])) (dC (.str "none")))
theorem ut_eq : body_run_text = dSeq utA (dSeq utB (dSeq utC utD)) := rfl
section
variable {g : Gst} {Q : Rv → Gst → Prop} {E : Xd → Gst → Prop} {Dx : Dn} {x2 x3 : Option Sv}
abbrev US (r : Rg) (d : D) (x2 x3 : Option Sv) (g : Gst) : Sd := ⟨[some (.v (rgD r)), some (.v d), x2, x3], g⟩
theorem utA_ok {r : Rg} {d : D} (hr : RgN r) (q : Dx.nx (US r d x2 x3 g)) : utA Dx (US r d x2 x3 g) := by
  unfold utA dDrop
  exact call_gen [rgD r] (US r d x2 x3 g) (fun K E2 q2 => q2) rfl (need_rig_rg hr q)
theorem utB_ok {r : Rg} {d : D} (hd : gd d = true) (q : match tupl d with
    | none => Dx.ex ⟨3, .lds []⟩ (US r d x2 x3 g)
    | some l => if decide ((1000 : Int) < l.length) then Dx.ex ⟨3, .lds []⟩ (US r d x2 x3 g) else Dx.nx (US r d x2 x3 g)) : utB Dx (US r d x2 x3 g) := by
  unfold utB
  cases ht : tupl d with
  | none =>
    rw [ht] at q
    refine dif_bs true (s' := US r d x2 x3 g) (fun {Q2 E2} q2 => ?_) q
    cases d <;> first | (cases ht; done) | exact q2 | (simp [gd] at hd; done)
  | some l =>
    rw [ht] at q
    cases tupl_some ht
    simp only at q
    cases h : decide ((1000 : Int) < l.length) with
    | true =>
      rw [h] at q
      refine dif_bs true (s' := US r (.lds l) x2 x3 g) (fun {Q2 E2} q2 => ?_) q
      simp only [dOr, dNot, dB, dIsT, dVar, nthO, view, bindO, gIsTup, dOp, dUn, gLen_t, dC, gGt, gI, h, rB, Bool.not_true]
      exact q2
    | false =>
      rw [h] at q
      refine dif_bs false (s' := US r (.lds l) x2 x3 g) (fun {Q2 E2} q2 => ?_) q
      simp only [dOr, dNot, dB, dIsT, dVar, nthO, view, bindO, gIsTup, dOp, dUn, gLen_t, dC, gGt, gI, h, rB, Bool.not_true]
      exact q2
theorem utCb_ok {r : Rg} {d x : D} {k : Nat} (hx : gd x = true) (q : if whD x 0 ((r.moves.length : Int) - 1) then Dx.nx (US r d (some (.v (.int (k : Nat)))) (some (.v x)) g) else Dx.ex ⟨3, .lds [.int (k : Nat)]⟩ (US r d (some (.v (.int (k : Nat)))) (some (.v x)) g)) :
    utCb Dx (US r d (some (.v (.int (k : Nat)))) (some (.v x)) g) := by
  unfold utCb
  refine dif_bs (!whD x 0 ((r.moves.length : Int) - 1)) (s' := US r d (some (.v (.int (k : Nat)))) (some (.v x)) g) (fun {Q2 E2} q2 => ?_) ?_
  · unfold dNot dB
    exact call_gen [rgD r, x] (US r d (some (.v (.int (k : Nat)))) (some (.v x)) g) (fun K E2 q2 => q2) rfl (is_mv_ok hx q2)
  · cases h : whD x 0 ((r.moves.length : Int) - 1) with
    | true => rw [h] at q; exact q
    | false => rw [h] at q; exact q
theorem ut_loop {r : Rg} {d : D} (D1 : Dn) : ∀ (l : List D) (k : Nat) (x2 x3 : Option Sv), keepV x3 = x3 → (∀ x ∈ l, gd x = true) → (match firstOut r.moves.length k l with
      | some k => ∀ s, s.g = g → D1.ex ⟨3, .lds [.int (k : Nat)]⟩ s
      | none => ∀ x2 x3, keepV x3 = x3 → D1.nx (US r d x2 x3 g)) → forD (.tu [2, 3]) utCb D1 (numbered k l) (US r d x2 x3 g) := by
  intro l
  induction l with
  | nil =>
    intro k x2 x3 h3 _ q
    exact q _ _ h3
  | cons x l ih =>
    intro k x2 x3 h3 hg q
    rw [show DL.numbered k (x :: l) = .tup [.int (k : Nat), x] :: DL.numbered (k + 1) l from rfl]
    unfold forD
    show utCb { D1 with nx := forD (.tu [2, 3]) utCb D1 (numbered (k + 1) l), ct := forD (.tu [2, 3]) utCb D1 (numbered (k + 1) l), bk := D1.nx } (US r d (some (.v (.int (k : Nat)))) (some (.v x)) g)
    refine utCb_ok (hg x (List.mem_cons_self ..)) ?_
    unfold firstOut at q
    cases h : whD x 0 ((r.moves.length : Int) - 1) with
    | true =>
      rw [h] at q
      exact ih (k + 1) _ _ rfl (fun y hy => hg y (List.mem_cons_of_mem _ hy)) q
    | false =>
      rw [h] at q
      exact q _ rfl
theorem firstOut_none {n : Int} : ∀ {l : List D} {k : Nat}, firstOut n k l = none → ∃ is : List Int, l = is.map D.int ∧ ∀ i ∈ is, 0 ≤ i ∧ i < n
  | [], _, _ => ⟨[], rfl, by simp⟩
  | d :: l, k, h => by
    unfold firstOut at h
    cases hw : whD d 0 (n - 1) with
    | false => rw [hw] at h; cases h
    | true =>
      rw [hw] at h
      obtain ⟨is, rfl, hi⟩ := firstOut_none (l := l) (k := k + 1) h
      obtain ⟨i, rfl, h0, h1⟩ := whD_some hw
      exact ⟨i :: is, rfl, fun j hj => by
        rcases List.mem_cons.mp hj with rfl | hj
        · omega
        · exact hi j hj⟩
theorem words_of (is : List Int) : (is.map D.int).map wordOf = is.map nI := by
  rw [List.map_map]
  rfl
theorem utD_ok {r : Rg} {is : List Int} (h3 : keepV x3 = x3) (h : ∀ i ∈ is, 0 ≤ i ∧ i < 100) (hl : is.length ≤ 1000) (q : ∀ e, Dx.rt (.v (.str (runTx (is.map D.int)))) ⟨e, g⟩) : utD Dx (US r (.lds (is.map D.int)) x2 x3 g) := by
  unfold utD dRet dIf dB dOp
  refine dvar_v rfl ?_
  simp only [dTupK, dNil, fewL, guardB, view, bindO, gNe_t0, rB]
  cases is with
  | nil => exact q _
  | cons i is =>
    have hk : ∀ d, nthO ((Sd.wipe (US r (.lds ((i :: is).map D.int)) x2 x3 g) [3]).put 3 (.v d)).e 3 = some (.v d) := fun _ => rfl
    show dMS gJoin (dC (.str " ")) (dLc (dSeqI (dVar 1)) (.nm 3) dYes (dUn gStr (dVar 3)) [3]) (US r (.lds ((i :: is).map D.int)) x2 x3 g) _ _
    have e : runTx ((i :: is).map D.int) = Txt.join sp ((i :: is).map nI) := by
      unfold runTx
      rw [words_of]
      rfl
    rw [e] at q
    generalize i :: is = js at *
    refine ms_join (ys := js.map nI) (B := 11) (r := .ol ((js.map nI).map D.str)) (s' := US r (.lds (js.map D.int)) x2 x3 g) e_sp (fun {Q E} q => ?_) rfl (fun y hy => ?_) (by rw [List.length_map]; omega) (q _)
    · unfold dLc dSeqI
      refine dvar_v rfl ?_
      simp only [DL.settle, bindO, seqOf]
      refine lc_strs (fun j hj => by have := h j hj; omega) (fun _ => rfl) (fun d => ?_) q
      show US r (.lds (js.map D.int)) x2 (keepV x3) g = _
      rw [h3]
    · obtain ⟨j, hj, rfl⟩ := List.mem_map.mp hy
      have := h j hj
      exact (nI_wd (by omega) (by omega)).le
end
section
variable {g : Gst} {Q : Rv → Gst → Prop} {E : Xd → Gst → Prop} {Dx : Dn} {x2 x3 : Option Sv}
theorem ut_all {r : Rg} {d : D} {D1 : Dn} (hr : RgN r) (hd : gd d = true) (q : match runT r.moves.length d with
    | .inl p => ∀ s, s.g = g → D1.ex ⟨3, p⟩ s
    | .inr y => ∀ s, s.g = g → D1.rt (.v (.str y)) s) : dSeq utA (dSeq utB (dSeq utC utD)) D1 (US r d none none g) := by
  apply dSeq_at (s' := US r d none none g)
  · intro N h
    exact utA_ok hr h
  unfold dSeq
  refine utB_ok hd ?_
  unfold runT at q
  cases ht : tupl d with
  | none =>
    rw [ht] at q
    exact q _ rfl
  | some l =>
    rw [ht] at q
    simp only at q ⊢
    cases h : decide ((1000 : Int) < l.length) with
    | true =>
      rw [h] at q
      exact q _ rfl
    | false =>
      rw [h] at q
      have hl : l.length ≤ 1000 := by
        have := of_decide_eq_false h
        omega
      have hg := tupl_gd ht hd
      cases tupl_some ht
      simp only [Bool.false_eq_true, if_false] at q ⊢
      unfold utC dFor dEnum
      refine dvar_v rfl ?_
      simp only [DL.settle, bindO, seqOf]
      refine ut_loop _ l 0 none none rfl (fun x hx => gdL_mem hg hx) ?_
      cases hf : firstOut r.moves.length 0 l with
      | some k =>
        rw [hf] at q
        exact q
      | none =>
        rw [hf] at q
        simp only at q ⊢
        intro x2 x3 h3
        obtain ⟨is, rfl, hi⟩ := firstOut_none hf
        have h10 := hr.ten
        rw [List.length_map] at hl
        exact utD_ok h3 (fun i h => by have := hi i h; omega) hl fun e => q _ rfl
theorem run_text_ok {r : Rg} {d : D} (hr : RgN r) (hd : gd d = true) (q : match runT r.moves.length d with
    | .inl p => E ⟨3, p⟩ g
    | .inr y => Q (.v (.str y)) g) : den_run_text [rgD r, d] g Q E := by
  unfold den_run_text
  rw [ut_eq]
  unfold dFn
  apply ut_all hr hd
  generalize runT r.moves.length d = R at q
  cases R with
  | inl p => intro s h; subst h; exact q
  | inr y => intro s h; subst h; exact q
end

/-! ### read_run -/
def rdWords (f : Str → Option Int) (n : Int) : Nat → List Str → List Int → Nat ⊕ List Int
  | _, [], acc => .inr acc
  | k, y :: ys, acc => match f y with
    | some i => if decide (0 ≤ i) && decide (i ≤ n - 1) then rdWords f n (k + 1) ys (acc ++ [i]) else .inl k
    | none => .inl k
/-- what read_run tells of the words of the lines of a text -/
def rdLine (f : Str → Option Int) (n : Int) (ws : List Str) : D ⊕ List Int :=
  if ws.headD "" == "none" then (if decide (1 < ws.length) then .inl (.lds [.int 0, .int 1]) else .inr []) else match rdWords f n 0 ws [] with
    | .inl k => .inl (.lds [.int 0, .int (k : Nat)])
    | .inr is => .inr is
def rdRun (f : Str → Option Int) (n : Int) (ls : List (List Str)) : D ⊕ List Int := match rdLine f n (ls.headD []) with
  | .inl p => .inl p
  | .inr is => if decide (1 < ls.length) then .inl (.lds [.int 1, .int 0]) else .inr is
def rnA : DS := dDrop (dCall den_need_rig 1 [] (dCons (dVar 0) dNil))
def rnB : DS := dSet 2 (dCall den_need_words 1 [] (dCons (dVar 1) dNil))
def rnC : DS := dPar [3, 4] [(dLst dNil), (dOp gIx (dVar 2) (dC (.int 0)))]
def rnS0 : DS := dSet 7 (dCall den_number_in 1 [.int 5] (dCons (dVar 6) dNil))
def rnS1 : DS := dIfS (dOr (dB (dOp gIsN (dVar 7) (dC .non))) (dNot (dB (dCall den_is_move 2 [] (dCons (dVar 0) (dCons (dVar 7) dNil)))))) (dRaise 1 (dTupK (dCons (dC (.int 0)) (dCons (dVar 5) dNil)))) dNext
def rnS2 : DS := dDrop (dAppend (dVar 3) (dVar 7))
def rnL : DS := dFor (dEnum (dVar 4)) (.tu [5, 6]) (dSeq rnS0 (dSeq rnS1 rnS2))
def rnN : DS := dDrop (dCall den_need_count 4 [] (dCons (dVar 4) (dCons (dC (.int 0)) (dCons (dC (.int 1)) (dCons (dC (.int 1)) dNil)))))
def rnD : DS := dIfS (dB (dOp gEq (dOp gIx (dVar 4) (dC (.int 0))) (dC (.str "none")))) rnN rnL
def rnE : DS := dIfS (dB (dOp gGt (dUn gLen (dVar 2)) (dC (.int 1)))) (dRaise 1 (dTupK (dCons (dC (.int 1)) (dCons (dC (.int 0)) dNil)))) dNext
def rnF : DS := dRet (dUn gTupK (dVar 3))
theorem rn_eq : body_read_run = dSeq rnA (dSeq rnB (dSeq rnC (dSeq rnD (dSeq rnE rnF)))) := rfl
section
variable {g : Gst} {Q : Rv → Gst → Prop} {E : Xd → Gst → Prop} {Dx : Dn} {x3 x4 x5 x6 x7 : Option Sv}
theorem need_count_gen {l : List D} {k a b : Int} (q : if decide (((l.length : Nat) : Int) < a) then E ⟨1, .lds [.int k, .int (l.length : Nat)]⟩ g else if decide (b < ((l.length : Nat) : Int)) then E ⟨1, .lds [.int k, .int b]⟩ g else Q (.v .non) g) : den_need_count [.lst l, .int k, .int a, .int b] g Q E := by
  unfold den_need_count body_need_count dFn
  show dSeq _ _ _ ⟨[some (.v (.lst l)), some (.v (.int k)), some (.v (.int a)), some (.v (.int b))], g⟩
  apply dSeq_now
  refine dif_bs (decide (((l.length : Nat) : Int) < a)) (s' := ⟨[some (.v (.lst l)), some (.v (.int k)), some (.v (.int a)), some (.v (.int b))], g⟩) (fun {Q2 E2} q2 => ?_) ?_
  · simp only [dB, dOp, dUn, dVar, nthO, view, bindO, gLen_l, gLt, gI, rB]
    exact q2
  cases h1 : decide (((l.length : Nat) : Int) < a) with
  | true => rw [h1] at q; exact q
  | false =>
    rw [h1] at q
    rw [if_neg (by decide)] at q ⊢
    unfold dNext
    dsimp only
    refine dif_bs (decide (b < ((l.length : Nat) : Int))) (s' := ⟨[some (.v (.lst l)), some (.v (.int k)), some (.v (.int a)), some (.v (.int b))], g⟩) (fun {Q2 E2} q2 => ?_) ?_
    · simp only [dB, dOp, dUn, dVar, nthO, view, bindO, gLen_l, gGt, gI, rB]
      exact q2
    cases h2 : decide (b < ((l.length : Nat) : Int)) with
    | true => rw [h2] at q; exact q
    | false => rw [h2] at q; exact q
abbrev NS (r : Rg) (t : Str) (L : Sv) (x3 x4 x5 x6 x7 : Option Sv) (g : Gst) : Sd := ⟨[some (.v (rgD r)), some (.v (.str t)), some L, x3, x4, x5, x6, x7], g⟩
/-- the numbers in the words are told -/
def Nums (f : Str → Option Int) (ws : List Str) : Prop := ∀ y ∈ ws, (∀ i, f y = some i → -1000000 ≤ i ∧ i ≤ 1000000) ∧ ∀ (g : Gst) (Q : Rv → Gst → Prop) (E : Xd → Gst → Prop), Q (.v (optD (f y))) g → den_number_in [.str y, .int 5] g Q E
theorem rnS0_ok {r : Rg} {t : Str} {L : Sv} {y : Str} {m : Option Int} (h : ∀ (g : Gst) (Q : Rv → Gst → Prop) (E : Xd → Gst → Prop), Q (.v (optD m)) g → den_number_in [.str y, .int 5] g Q E)
    (q : Dx.nx (NS r t L x3 x4 x5 (some (.v (.str y))) (some (.v (optD m))) g)) : rnS0 Dx (NS r t L x3 x4 x5 (some (.v (.str y))) x7 g) := by
  unfold rnS0 dSet
  exact call_gen [.str y] (NS r t L x3 x4 x5 (some (.v (.str y))) x7 g) (fun K E2 q2 => q2) rfl (h _ _ _ q)
def inMv (n : Int) : Option Int → Bool
  | some i => decide (0 ≤ i) && decide (i ≤ n - 1)
  | none => false
theorem rnS1_ok {r : Rg} {t : Str} {L : Sv} {k : Nat} {m : Option Int} (hm : ∀ i, m = some i → -1000000 ≤ i ∧ i ≤ 1000000)
    (q : if inMv r.moves.length m then Dx.nx (NS r t L x3 x4 (some (.v (.int (k : Nat)))) x6 (some (.v (optD m))) g) else Dx.ex ⟨1, .lds [.int 0, .int (k : Nat)]⟩ (NS r t L x3 x4 (some (.v (.int (k : Nat)))) x6 (some (.v (optD m))) g)) :
    rnS1 Dx (NS r t L x3 x4 (some (.v (.int (k : Nat)))) x6 (some (.v (optD m))) g) := by
  unfold rnS1
  refine dif_bs (!inMv r.moves.length m) (s' := NS r t L x3 x4 (some (.v (.int (k : Nat)))) x6 (some (.v (optD m))) g) (fun {Q2 E2} q2 => ?_) ?_
  · unfold dOr dB dOp
    refine dvar_v rfl ?_
    cases m with
    | none => exact q2
    | some i =>
      have := hm i rfl
      simp only [optD, view, bindO, dC, isN_int, rB]
      unfold dNot
      exact call_gen [rgD r, .int i] (NS r t L x3 x4 (some (.v (.int (k : Nat)))) x6 (some (.v (.int i))) g) (fun K E2 q2 => q2) rfl (is_mv_ok (gd_int (by omega) (by omega)) q2)
  · cases h : inMv r.moves.length m with
    | true => rw [h] at q; exact q
    | false => rw [h] at q; exact q
theorem rnS2_ok {r : Rg} {t : Str} {L : Sv} {acc : List Int} {i : Int} (ha : acc.length ≤ 2000) (q : Dx.nx (NS r t L (some (.ol ((acc ++ [i]).map D.int))) x4 x5 x6 (some (.v (.int i))) g)) : rnS2 Dx (NS r t L (some (.ol (acc.map D.int))) x4 x5 x6 (some (.v (.int i))) g) := by
  unfold rnS2
  refine app_d (d := .int i) rfl (by rw [List.length_map]; omega) (fun Q E q => q) ?_
  rw [List.map_append] at q
  exact q
theorem rn_loop {r : Rg} {t : Str} {L : Sv} {f : Str → Option Int} (D1 : Dn) : ∀ (ws : List Str) (k : Nat) (acc : List Int) (x5 x6 x7 : Option Sv), Nums f ws → acc.length + ws.length ≤ 2000 → (match rdWords f r.moves.length k ws acc with
      | .inl k => ∀ s, s.g = g → D1.ex ⟨1, .lds [.int 0, .int (k : Nat)]⟩ s
      | .inr is => ∀ x5 x6 x7, D1.nx (NS r t L (some (.ol (is.map D.int))) x4 x5 x6 x7 g)) →
    forD (.tu [5, 6]) (dSeq rnS0 (dSeq rnS1 rnS2)) D1 (numbered k (ws.map D.str)) (NS r t L (some (.ol (acc.map D.int))) x4 x5 x6 x7 g) := by
  intro ws
  induction ws with
  | nil =>
    intro k acc x5 x6 x7 _ _ q
    exact q _ _ _
  | cons y ws ih =>
    intro k acc x5 x6 x7 hn hl q
    rw [List.map_cons]
    rw [show DL.numbered k (.str y :: ws.map D.str) = .tup [.int (k : Nat), .str y] :: DL.numbered (k + 1) (ws.map D.str) from rfl]
    simp only [List.length_cons] at hl
    obtain ⟨hb, hy⟩ := hn y (List.mem_cons_self ..)
    unfold forD
    generalize hF : forD (.tu [5, 6]) (dSeq rnS0 (dSeq rnS1 rnS2)) D1 (numbered (k + 1) (ws.map D.str)) = F
    show dSeq rnS0 (dSeq rnS1 rnS2) { D1 with nx := F, ct := F, bk := D1.nx } (NS r t L (some (.ol (acc.map D.int))) x4 (some (.v (.int (k : Nat)))) (some (.v (.str y))) x7 g)
    apply dSeq_now
    refine rnS0_ok hy ?_
    apply dSeq_now
    refine rnS1_ok hb ?_
    unfold rdWords at q
    cases hf : f y with
    | none =>
      rw [hf] at q
      exact q _ rfl
    | some i =>
      rw [hf] at q
      simp only at q
      show if (decide (0 ≤ i) && decide (i ≤ (r.moves.length : Int) - 1)) = true then _ else _
      cases hi : (decide (0 ≤ i) && decide (i ≤ (r.moves.length : Int) - 1)) with
      | false =>
        rw [hi] at q
        exact q _ rfl
      | true =>
        rw [hi] at q
        simp only [if_true] at q ⊢
        refine rnS2_ok (by omega) ?_
        show F _
        rw [← hF]
        exact ih (k + 1) (acc ++ [i]) _ _ _ (fun z hz => hn z (List.mem_cons_of_mem _ hz)) (by simp only [List.length_append, List.length_cons, List.length_nil]; omega) q
theorem rnD_ok {r : Rg} {t : Str} {L : Sv} {f : Str → Option Int} {ws : List Str} (hne : ws ≠ []) (hps : ∀ y ∈ ws, PS y) (hn : Nums f ws) (hl : ws.length ≤ 2000) (q : match rdLine f r.moves.length ws with
      | .inl p => ∀ s, s.g = g → Dx.ex ⟨1, p⟩ s
      | .inr is => ∀ x5 x6 x7, Dx.nx (NS r t L (some (.ol (is.map D.int))) (some (.v (lnD ws))) x5 x6 x7 g)) :
    rnD Dx (NS r t L (some (.ol [])) (some (.v (lnD ws))) x5 x6 x7 g) := by
  obtain ⟨w, r1, rfl⟩ : ∃ w r1, ws = w :: r1 := by
    cases ws with
    | nil => exact (hne rfl).elim
    | cons w r1 => exact ⟨w, r1, rfl⟩
  have hi : gIx (lnD (w :: r1)) (.int 0) = some (.v (.str w)) := gIx_lk0 (l := (w :: r1).map D.str) rfl
  have he : gEq (.str w) (.str "none") = rB (w == "none") := gEq_str (strOk_of (hps w (List.mem_cons_self ..))) (strOk_of wd_none.ps)
  unfold rdLine at q
  have hh : (w :: r1).headD "" = w := rfl
  rw [hh] at q
  unfold rnD
  refine dif_bs (w == "none") (s' := NS r t L (some (.ol [])) (some (.v (lnD (w :: r1)))) x5 x6 x7 g) (fun {Q2 E2} q2 => ?_) ?_
  · simp only [dB, dOp, dVar, nthO, view, bindO, dC, hi, he, rB]
    exact q2
  cases hw : (w == "none") with
  | true =>
    rw [hw] at q
    simp only [if_true] at q ⊢
    unfold rnN dDrop
    refine call_gen [.lst ((w :: r1).map D.str), .int 0, .int 1, .int 1] (NS r t L (some (.ol [])) (some (.v (lnD (w :: r1)))) x5 x6 x7 g) (fun K E2 q2 => q2) rfl (need_count_gen ?_)
    have h0 : decide (((((w :: r1).map D.str).length : Nat) : Int) < 1) = false := by
      rw [List.length_map]
      simp only [List.length_cons]
      exact decide_eq_false (by omega)
    rw [h0]
    simp only [Bool.false_eq_true, if_false, List.length_map]
    cases h1 : decide (1 < (w :: r1).length) with
    | true =>
      rw [h1] at q
      have h2 : decide ((1 : Int) < (((w :: r1).length : Nat) : Int)) = true := by
        have := of_decide_eq_true h1
        exact decide_eq_true (by omega)
      rw [h2]
      exact q _ rfl
    | false =>
      rw [h1] at q
      have h2 : decide ((1 : Int) < (((w :: r1).length : Nat) : Int)) = false := by
        have := of_decide_eq_false h1
        exact decide_eq_false (by omega)
      rw [h2]
      exact q _ _ _
  | false =>
    rw [hw] at q
    simp only [Bool.false_eq_true, if_false] at q ⊢
    generalize w :: r1 = ws at *
    unfold rnL dFor dEnum
    refine dvar_v rfl ?_
    simp only [DL.settle, bindO, lnD, seqOf]
    refine rn_loop (f := f) Dx ws 0 [] x5 x6 x7 hn (by simpa using hl) ?_
    cases hR : rdWords f r.moves.length 0 ws [] with
    | inl k => rw [hR] at q; exact q
    | inr is => rw [hR] at q; exact q
theorem rnE_ok {r : Rg} {t : Str} {L : List D} (q : if decide (1 < L.length) then Dx.ex ⟨1, .lds [.int 1, .int 0]⟩ (NS r t (.ol L) x3 x4 x5 x6 x7 g) else Dx.nx (NS r t (.ol L) x3 x4 x5 x6 x7 g)) : rnE Dx (NS r t (.ol L) x3 x4 x5 x6 x7 g) := by
  have e : gGt (.int (L.length : Nat)) (.int 1) = rB (decide (1 < L.length)) := by
    show rB (decide ((1 : Int) < ((L.length : Nat) : Int))) = _
    congr 1
    exact decide_eq_decide.mpr (by omega)
  unfold rnE
  refine dif_bs (decide (1 < L.length)) (s' := NS r t (.ol L) x3 x4 x5 x6 x7 g) (fun {Q2 E2} q2 => ?_) ?_
  · simp only [dB, dOp, dUn, dVar, nthO, view, bindO, dC, gLen_l, e, rB]
    exact q2
  cases h : decide (1 < L.length) with
  | true => rw [h] at q; exact q
  | false => rw [h] at q; exact q
theorem rn_all {r : Rg} {t : Str} {ls : List (List Str)} {f : Str → Option Int} {D1 : Dn} (hr : RgN r) (ht : gSplit (.str t) (.str nl) = some (.ol ((ls.map (Txt.join sp)).map D.str))) (hw : ∀ ws ∈ ls, Ln ws) (hne : ls ≠ []) (hn : Nums f (ls.headD [])) (hl : (ls.headD []).length ≤ 2000)
    (q : match rdRun f r.moves.length ls with
      | .inl p => ∀ s, s.g = g → D1.ex ⟨1, p⟩ s
      | .inr is => ∀ s, s.g = g → D1.rt (.v (.lds (is.map D.int))) s) : dSeq rnA (dSeq rnB (dSeq rnC (dSeq rnD (dSeq rnE rnF)))) D1 ⟨[some (.v (rgD r)), some (.v (.str t)), none, none, none, none, none, none], g⟩ := by
  apply dSeq_at (s' := ⟨[some (.v (rgD r)), some (.v (.str t)), none, none, none, none, none, none], g⟩)
  · intro N h
    unfold rnA dDrop
    exact call_gen [rgD r] ⟨[some (.v (rgD r)), some (.v (.str t)), none, none, none, none, none, none], g⟩ (fun K E2 q2 => q2) rfl (need_rig_rg hr h)
  apply dSeq_at (s' := NS r t (.ol (ls.map lnD)) none none none none none g)
  · intro N h
    unfold rnB dSet
    exact call_gen [.str t] ⟨[some (.v (rgD r)), some (.v (.str t)), none, none, none, none, none, none], g⟩ (fun K E2 q2 => q2) rfl (need_words_gen ht hw h)
  obtain ⟨ws, rest, rfl⟩ : ∃ ws rest, ls = ws :: rest := by
    cases ls with
    | nil => exact (hne rfl).elim
    | cons ws rest => exact ⟨ws, rest, rfl⟩
  have hL := hw ws (List.mem_cons_self ..)
  have hlen : ((ws :: rest).map lnD).length = (ws :: rest).length := List.length_map ..
  have hi : gIx (.lst ((ws :: rest).map lnD)) (.int 0) = some (.v (lnD ws)) := gIx_lk0 rfl
  have hh : (ws :: rest).headD [] = ws := rfl
  rw [hh] at hn hl
  unfold rdRun at q
  rw [hh] at q
  generalize (ws :: rest).map lnD = L at *
  apply dSeq_at (s' := NS r t (.ol L) (some (.ol [])) (some (.v (lnD ws))) none none none g)
  · intro N h
    simp only [rnC, dPar, dUA, dLst, dNil, fewL, guardB, unAl, bindO, dOp, dVar, nthO, view, dC, hi]
    exact h
  apply dSeq_now
  refine rnD_ok (f := f) hL.ne hL.ps hn hl ?_
  cases hR : rdLine f r.moves.length ws with
  | inl p => rw [hR] at q; exact q
  | inr is =>
    rw [hR] at q
    simp only at q ⊢
    intro x5 x6 x7
    apply dSeq_now
    refine rnE_ok ?_
    rw [hlen]
    cases h1 : decide (1 < (ws :: rest).length) with
    | true => rw [h1] at q; exact q _ rfl
    | false =>
      rw [h1] at q
      exact q _ rfl
theorem read_run_ok {r : Rg} {t : Str} {ls : List (List Str)} {f : Str → Option Int} (hr : RgN r) (ht : gSplit (.str t) (.str nl) = some (.ol ((ls.map (Txt.join sp)).map D.str))) (hw : ∀ ws ∈ ls, Ln ws) (hne : ls ≠ []) (hn : Nums f (ls.headD [])) (hl : (ls.headD []).length ≤ 2000)
    (q : match rdRun f r.moves.length ls with
      | .inl p => E ⟨1, p⟩ g
      | .inr is => Q (.v (.lds (is.map D.int))) g) : den_read_run [rgD r, .str t] g Q E := by
  unfold den_read_run
  rw [rn_eq]
  unfold dFn
  apply rn_all hr ht hw hne hn hl
  generalize rdRun f r.moves.length ls = R at q
  cases R with
  | inl p => intro s h; subst h; exact q
  | inr is => intro s h; subst h; exact q
end

end Sag
namespace Sag
open PySem PySem.Spec PyProof.Rows L2 DL
/-! ### any word as a number -/
def digB (c : Nat) : Bool := decide (48 ≤ c) && decide (c ≤ 57)
def numL? (l : List Nat) : Option Int := if decide (1 ≤ l.length) && decide (l.length ≤ 5) && l.all digB then (if (l.headD 0 == 48) && (l != [48]) then none else some ((NumText.digitsVal l : Nat) : Int)) else none
def numIn (y : Str) : Option Int := numL? y.cps.toList
theorem dig_all {l : List Nat} (h : l.all digB = true) : NumText.AllDigits l := fun c hc => by
  have := List.all_eq_true.mp h c hc
  simp only [digB, Bool.and_eq_true, decide_eq_true_eq] at this
  exact this
theorem val_le : ∀ (l : List Nat) (a : Nat), NumText.AllDigits l → l.foldl (fun acc c => acc * 10 + (c - 48)) a + 1 ≤ (a + 1) * 10 ^ l.length
  | [], a, _ => by simp
  | c :: l, a, h => by
    have h1 := val_le l (a * 10 + (c - 48)) h.tail
    have h2 := h.head
    have h3 : (a * 10 + (c - 48) + 1) * 10 ^ l.length ≤ ((a + 1) * 10) * 10 ^ l.length := Nat.mul_le_mul_right _ (by omega)
    rw [List.foldl_cons, List.length_cons, Nat.pow_succ]
    have h4 : (a + 1) * (10 ^ l.length * 10) = ((a + 1) * 10) * 10 ^ l.length := by
      rw [Nat.mul_comm (10 ^ l.length) 10, ← Nat.mul_assoc]
    rw [h4]
    exact Nat.le_trans h1 h3
theorem numIn_rng {y : Str} {i : Int} (h : numIn y = some i) : 0 ≤ i ∧ i < 100000 := by
  unfold numIn numL? at h
  split at h
  · rename_i hc
    simp only [Bool.and_eq_true, decide_eq_true_eq] at hc
    split at h
    · cases h
    · cases h
      have h1 := val_le y.cps.toList 0 (dig_all hc.2)
      have h2 : 10 ^ y.cps.toList.length ≤ 10 ^ 5 := Nat.pow_le_pow_right (by decide) hc.1.2
      have h3 : NumText.digitsVal y.cps.toList = y.cps.toList.foldl (fun acc c => acc * 10 + (c - 48)) 0 := rfl
      omega
  · cases h
theorem numIn_nS {n : Nat} (h : n < 100000) : numIn (nS n) = some (n : Int) := by
  obtain ⟨h1, h5⟩ := nS_len h
  rw [len_list] at h1 h5
  have hd : (nS n).cps.toList.all digB = true := List.all_eq_true.mpr fun c hc => by
    have := TL.numL_digits n c hc
    simp only [digB, Bool.and_eq_true, decide_eq_true_eq]
    exact this
  have hz : ((nS n).cps.toList.headD 0 == 48 && (nS n).cps.toList != [48]) = false := by
    by_cases h0 : n = 0
    · subst h0
      rw [nS_list, numL_zero]
      rfl
    · obtain ⟨c, r, e, hc⟩ := nS_head n (by omega)
      rw [nS_list, e]
      have : (c == 48) = false := beq_eq_false_iff_ne.mpr hc
      simp [this]
  unfold numIn numL?
  rw [hd, hz, decide_eq_true h1, decide_eq_true h5]
  rw [nS_list, TL.numL_val]
  rfl
theorem numIn_nI {i : Int} (h0 : 0 ≤ i) (h1 : i < 100000) : numIn (nI i) = some i := by
  obtain ⟨n, rfl⟩ := Int.eq_ofNat_of_zero_le h0
  exact numIn_nS (by omega)
/-- a word that tells a number is this number's own -/
theorem numIn_word {y : Str} {i : Int} (h : numIn y = some i) : y = nI i := by
  have hr := numIn_rng h
  unfold numIn numL? at h
  split at h
  · rename_i hc
    simp only [Bool.and_eq_true, decide_eq_true_eq] at hc
    split at h
    · cases h
    · rename_i hz
      cases h
      have hd := dig_all hc.2
      apply str_ext
      show _ = TL.numL (NumText.digitsVal y.cps.toList)
      generalize hl : y.cps.toList = l at *
      obtain ⟨c, r, rfl⟩ : ∃ c r, l = c :: r := by
        cases l with
        | nil => simp at hc
        | cons c r => exact ⟨c, r, rfl⟩
      have hh : r.length = 0 ∨ ∃ c' r', c :: r = c' :: r' ∧ 49 ≤ c' := by
        by_cases h48 : c = 48
        · subst h48
          simp only [List.headD_cons, beq_self_eq_true, Bool.true_and, bne_iff_ne, ne_eq, List.cons.injEq, true_and, Decidable.not_not] at hz
          left
          rw [hz]
          rfl
        · right
          have := hd c (List.mem_cons_self ..)
          exact ⟨c, r, rfl, by omega⟩
      have e := NumText.toDigits_digitsVal r.length (c :: r) rfl hd hh
      unfold TL.numL
      rw [e, List.map_map]
      have : ∀ (m : List Nat), NumText.AllDigits m → m = m.map (Char.toNat ∘ Char.ofNat) := by
        intro m
        induction m with
        | nil => intro _; rfl
        | cons a m ih =>
          intro hm
          rw [List.map_cons, ← ih hm.tail]
          have ha := hm.head
          have key : ∀ k, k < 58 → (Char.ofNat k).toNat = k := by decide
          show a :: m = (Char.ofNat a).toNat :: m
          rw [key a (by omega)]
      exact this _ hd
  · cases h
theorem dig_in : ∀ c, c < 256 → (!(Builtin.Str.occurrences "0123456789" ⟨#[c]⟩ 0 (Str.length "0123456789") 1).isEmpty) = digB c := by decide +kernel
theorem digit_gen {c : Nat} (h : c < 256) : gIn (.str ⟨#[c]⟩) (.str "0123456789") = rB (digB c) := by
  show rB _ = _
  rw [dig_in c h]
section
variable {g : Gst} {Q : Rv → Gst → Prop} {E : Xd → Gst → Prop} {Dx : Dn}
def digD (d : D) : D := match d with
  | .str y => .bl (digB (y.cps.toList.headD 0))
  | _ => .non
theorem digs_all (l : List Nat) : ((l.map fun c => D.str ⟨#[c]⟩).map digD) = (l.map digB).map D.bl := by
  rw [List.map_map, List.map_map]
  rfl
theorem blsOf_bl (l : List Bool) : blsOf (l.map D.bl) = some l := by
  induction l with
  | nil => rfl
  | cons a l ih => simp only [List.map_cons, blsOf, ih, Option.map_some]
theorem gAll_digs (l : List Nat) : gAll (.lst ((l.map fun c => D.str ⟨#[c]⟩).map digD)) = some (.v (.bl (l.all digB))) := by
  rw [digs_all]
  show (blsOf _).map _ = _
  rw [blsOf_bl, Option.map_some]
  congr 3
  rw [List.all_map]
  rfl
abbrev Nst (y : Str) (g : Gst) : Sd := ⟨[some (.v (.str y)), some (.v (.int 5)), none], g⟩
def numA (l : List Nat) : Bool := decide (1 ≤ l.length) && decide (l.length ≤ 5) && l.all digB
theorem niA_gen {y : Str} (hp : PS y) (hl : y.length ≤ 1000000) (q : if numA y.cps.toList then Dx.nx (Nst y g) else Dx.rt (.v .non) (Nst y g)) : niA Dx (Nst y g) := by
  have hL := gLen_str (y := y) (by omega)
  unfold niA
  refine dif_bs (!numA y.cps.toList) (s' := Nst y g) (fun {Q2 E2} q2 => ?_) ?_
  · have e1 : decide (1 ≤ y.cps.toList.length) = decide ((1 : Int) ≤ (y.length : Nat)) := decide_eq_decide.mpr (by rw [← len_list]; omega)
    have e5 : decide (y.cps.toList.length ≤ 5) = decide (((y.length : Nat) : Int) ≤ 5) := decide_eq_decide.mpr (by rw [← len_list]; omega)
    unfold numA at q2
    rw [e1, e5] at q2
    simp only [dOr, dNot, dB, dChain, dC, dUn, dVar, nthO, view, bindO, hL, gLe, gI, rB]
    cases h1 : decide ((1 : Int) ≤ (y.length : Nat)) with
    | false =>
      rw [h1] at q2
      exact q2
    | true =>
      rw [h1] at q2
      simp only [view, bindO, gLe, gI]
      cases h5 : decide (((y.length : Nat) : Int) ≤ 5) with
      | false =>
        rw [h5] at q2
        exact q2
      | true =>
        rw [h5] at q2
        simp only [Bool.not_true, dLc, dStrI, dVar, nthO, view, bindO, guardB, decide_eq_true (show y.length ≤ 16777216 by omega)]
        refine lc_gen (fun d => ⟨[some (.v (.str y)), some (.v (.int 5)), some (.v d)], g⟩) (fun _ => true) digD (signsD y) (fun _ _ => rfl) (fun _ _ => rfl) (fun d hd Q1 E1 q1 => q1) (fun d hd _ Q1 E1 q1 => ?_) [] ?_
        · obtain ⟨c, hc, rfl⟩ := List.mem_map.mp hd
          simp only [dOp, dVar, nthO, dC, view, bindO, digit_gen (hp c hc), rB]
          exact q1
        · rw [List.filter_eq_self.mpr (fun _ _ => rfl)]
          simp only [List.nil_append, view, bindO, signsD, gAll_digs]
          exact q2
  · cases h : numA y.cps.toList with
    | true => rw [h] at q; exact q
    | false => rw [h] at q; exact q
theorem niB_gen {y : Str} {c : Nat} {r : List Nat} (hp : PS y) (hl : y.length ≤ 600) (e : y.cps.toList = c :: r) (hd : y.cps.toList.all digB = true) (q : ∀ e, Dx.rt (.v (if (c == 48) && !(y == ⟨#[48]⟩) then .non else .int ((NumText.digitsVal y.cps.toList : Nat) : Int))) ⟨e, g⟩) : niB Dx (Nst y g) := by
  have e0 : ("0" : Str) = ⟨#[48]⟩ := by decide +kernel
  have p0 : PS ⟨#[48]⟩ := by rw [← e0]; exact ps_zero
  have hx := gIx0_str (y := y) (c := c) (r := r) (by omega) e
  have pc : PS ⟨#[c]⟩ := fun d hd => by
    have hd' : d ∈ [c] := hd
    rw [List.mem_singleton.mp hd']
    exact hp c (by rw [e]; exact List.mem_cons_self ..)
  have g1 : gEq (.str ⟨#[c]⟩) (.str "0") = rB (c == 48) := by
    rw [gEq_str (strOk_of pc) (strOk_of ps_zero), e0]
    congr 1
    by_cases h : c = 48
    · subst h; rfl
    · have h1 : (c == 48) = false := beq_eq_false_iff_ne.mpr h
      rw [h1]
      refine beq_eq_false_iff_ne.mpr fun z => h ?_
      injection z with z
      have := congrArg Array.toList z
      simpa using this
  have g2 : gNe (.str y) (.str "0") = rB (!(y == ⟨#[48]⟩)) := by rw [gNe_str (strOk_of hp) (strOk_of ps_zero), e0]
  have hi : gIntS (.str y) = some (.v (.int ((NumText.digitsVal y.cps.toList : Nat) : Int))) := by
    have k := intText_digits (x := y) (dig_all hd) (by rw [e]; simp) (by omega)
    show (match intText? y with | some n' => ifB (decide (y.length ≤ 640)) (some (Rv.v (.int n'))) | none => none) = _
    rw [k]
    simp only [decide_eq_true (show y.length ≤ 640 by omega)]
    rfl
  simp only [niB, dRet, dIf, dAnd, dB, dOp, dVar, nthO, dC, view, bindO, hx, g1, g2, rB]
  cases h : (c == 48) with
  | false =>
    rw [h] at q
    simp only [dUn, dVar, nthO, view, bindO, hi]
    exact q _
  | true =>
    rw [h] at q
    simp only
    cases h2 : (!(y == (⟨#[48]⟩ : Str))) with
    | true =>
      rw [h2] at q
      exact q _
    | false =>
      rw [h2] at q
      simp only [dUn, dVar, nthO, view, bindO, hi]
      exact q _
theorem number_gen {y : Str} (hp : PS y) (hl : y.length ≤ 1000000) (q : Q (.v (optD (numIn y))) g) : den_number_in [.str y, .int 5] g Q E := by
  unfold den_number_in
  rw [ni_eq]
  unfold dFn
  show dSeq niA niB _ (Nst y g)
  apply dSeq_now
  refine niA_gen hp hl ?_
  cases h : numA y.cps.toList with
  | false =>
    have e : numIn y = none := by
      unfold numIn numL?
      rw [show (decide (1 ≤ y.cps.toList.length) && decide (y.cps.toList.length ≤ 5) && y.cps.toList.all digB) = false from h]
      rfl
    rw [e] at q
    exact q
  | true =>
    have e : numIn y = if (y.cps.toList.headD 0 == 48) && (y.cps.toList != [48]) then none else some ((NumText.digitsVal y.cps.toList : Nat) : Int) := by
      unfold numIn numL?
      rw [show (decide (1 ≤ y.cps.toList.length) && decide (y.cps.toList.length ≤ 5) && y.cps.toList.all digB) = true from h]
      rfl
    unfold numA at h
    simp only [Bool.and_eq_true, decide_eq_true_eq] at h
    obtain ⟨⟨h1, h5⟩, hd⟩ := h
    obtain ⟨c, r, hc⟩ : ∃ c r, y.cps.toList = c :: r := by
      cases hl : y.cps.toList with
      | nil => rw [hl] at h1; simp at h1
      | cons c r => exact ⟨c, r, rfl⟩
    have eq48 : (y == (⟨#[48]⟩ : Str)) = (y.cps.toList == [48]) := by
      by_cases hy : y = ⟨#[48]⟩
      · subst hy; decide
      · have a1 : (y == (⟨#[48]⟩ : Str)) = false := beq_eq_false_iff_ne.mpr hy
        have a2 : (y.cps.toList == [48]) = false := beq_eq_false_iff_ne.mpr fun z => hy (str_ext z)
        rw [a1, a2]
    simp only [if_true]
    show niB _ (Nst y g)
    refine niB_gen hp (by rw [len_list]; omega) hc hd fun e' => ?_
    cases hz : (y.cps.toList.headD 0 == 48 && y.cps.toList != [48]) with
    | true =>
      have e3 : numIn y = none := by rw [e, hz]; rfl
      have hg : (c == 48 && !(y == (⟨#[48]⟩ : Str))) = true := by
        rw [eq48]
        rw [hc] at hz ⊢
        exact hz
      rw [e3] at q
      rw [hg]
      exact q
    | false =>
      have e3 : numIn y = some ((NumText.digitsVal y.cps.toList : Nat) : Int) := by rw [e, hz]; rfl
      have hg : (c == 48 && !(y == (⟨#[48]⟩ : Str))) = false := by
        rw [eq48]
        rw [hc] at hz ⊢
        exact hz
      rw [e3] at q
      rw [hg]
      exact q
end

/-! ### runs read back -/
def runWs (is : List Int) : List Str := if is.isEmpty then ["none"] else is.map nI
theorem join_one (c : Nat) (y : Str) : Txt.join ⟨#[c]⟩ [y] = y := by
  apply str_ext
  rw [join_list]
  simp [joinL, tailL]
theorem runTx_join (is : List Int) : runTx (is.map D.int) = Txt.join sp (runWs is) := by
  cases is with
  | nil => exact (join_one 32 "none").symm
  | cons i is =>
    show Txt.join sp (((i :: is).map D.int).map wordOf) = _
    rw [words_of]
    rfl
theorem runWs_wd {is : List Int} (hi : ∀ i ∈ is, 0 ≤ i ∧ i < 100) {y : Str} (h : y ∈ runWs is) : Wd y := by
  cases is with
  | nil =>
    have : y = "none" := by simpa [runWs] using h
    subst this
    exact wd_none
  | cons i is =>
    obtain ⟨j, hj, rfl⟩ := List.mem_map.mp (show y ∈ (i :: is).map nI from h)
    have := hi j hj
    exact nI_wd (by omega) (by omega)
theorem runWs_len (is : List Int) : (runWs is).length ≤ is.length + 1 := by
  cases is with
  | nil => simp [runWs]
  | cons i is => show ((i :: is).map nI).length ≤ _; rw [List.length_map]; omega
theorem runWs_ne (is : List Int) : runWs is ≠ [] := by
  cases is with
  | nil => simp [runWs]
  | cons i is => show (i :: is).map nI ≠ []; simp
theorem runWs_join {is : List Int} (hi : ∀ i ∈ is, 0 ≤ i ∧ i < 100) : (Txt.join sp (runWs is)).length ≤ (11 + 1) * (is.length + 1) := by
  have h1 : (Txt.join sp (runWs is)).length ≤ (11 + 1) * (runWs is).length := join_len (c := 32) (B := 11) fun y hy => (runWs_wd hi hy).le
  have h2 := runWs_len is
  have : (11 + 1) * (runWs is).length ≤ (11 + 1) * (is.length + 1) := Nat.mul_le_mul_left _ h2
  omega
theorem runWs_ln {is : List Int} (hi : ∀ i ∈ is, 0 ≤ i ∧ i < 100) (hl : is.length ≤ 100) : Ln (runWs is) where
  ne := runWs_ne is
  nb := fun y hy => (runWs_wd hi hy).nb
  ps := fun y hy => (runWs_wd hi hy).ps
  le := by have := runWs_join hi; omega
theorem run_split {is : List Int} (hi : ∀ i ∈ is, 0 ≤ i ∧ i < 100) (hl : is.length ≤ 100) : gSplit (.str (runTx (is.map D.int))) (.str nl) = some (.ol ((([runWs is]).map (Txt.join sp)).map D.str)) := by
  have h := runWs_join hi
  rw [runTx_join]
  have e := gSplit_join (c := 10) (ys := [Txt.join sp (runWs is)]) (by simp) (fun y hy hc => by
    rw [List.mem_singleton.mp hy] at hc
    rcases join_mem hc with h | ⟨z, hz, h⟩
    · cases h
    · exact (runWs_wd hi hz).ne h) (by rw [join_one]; omega)
  rw [join_one] at e
  exact e
theorem rdWords_ok {n : Int} (hn : n ≤ 100) : ∀ (is acc : List Int) (k : Nat), (∀ i ∈ is, 0 ≤ i ∧ i < n) → rdWords numIn n k (is.map nI) acc = .inr (acc ++ is)
  | [], acc, k, _ => by simp [rdWords]
  | i :: is, acc, k, h => by
    have hi := h i (List.mem_cons_self ..)
    rw [List.map_cons]
    unfold rdWords
    rw [numIn_nI (by omega) (by omega)]
    simp only [decide_eq_true hi.1, decide_eq_true (show i ≤ n - 1 by omega), Bool.and_self, if_true]
    rw [rdWords_ok hn is (acc ++ [i]) (k + 1) fun j hj => h j (List.mem_cons_of_mem _ hj), List.append_assoc]
    rfl
theorem nI_none {i : Int} (h0 : 0 ≤ i) (h1 : i < 100000) : (nI i == "none") = false := by
  refine beq_eq_false_iff_ne.mpr fun z => ?_
  have e := numIn_nI h0 h1
  rw [z] at e
  have : numIn "none" = none := by decide +kernel
  rw [this] at e
  cases e
theorem rd_run_ok {n : Int} {is : List Int} (hn : n ≤ 100) (h : ∀ i ∈ is, 0 ≤ i ∧ i < n) : rdRun numIn n [runWs is] = .inr is := by
  have e : rdLine numIn n (runWs is) = .inr is := by
    cases is with
    | nil => rfl
    | cons i is =>
      have hi := h i (List.mem_cons_self ..)
      show (if (nI i == "none") = true then _ else _) = _
      rw [nI_none hi.1 (by omega)]
      show (match rdWords numIn n 0 ((i :: is).map nI) [] with
        | .inl k => _
        | .inr is => _) = _
      rw [rdWords_ok hn (i :: is) [] 0 h]
      rfl
  unfold rdRun
  show (match rdLine numIn n (runWs is) with
    | .inl p => _
    | .inr is => _) = _
  rw [e]
  rfl
theorem nums_runWs {is : List Int} (hi : ∀ i ∈ is, 0 ≤ i ∧ i < 100) : Nums numIn (runWs is) := fun y hy => by
  have hw := runWs_wd hi hy
  refine ⟨fun i h => by have := numIn_rng h; omega, fun g Q E q => number_gen hw.ps (by have := hw.le; omega) q⟩
section
variable {g : Gst} {Q : Rv → Gst → Prop} {E : Xd → Gst → Prop}
theorem read_back {r : Rg} {is : List Int} (hr : RgN r) (h : ∀ i ∈ is, 0 ≤ i ∧ i < (r.moves.length : Int)) (hl : is.length ≤ 100) (q : Q (.v (.lds (is.map D.int))) g) : den_read_run [rgD r, .str (runTx (is.map D.int))] g Q E := by
  have h10 := hr.ten
  have hi : ∀ i ∈ is, 0 ≤ i ∧ i < 100 := fun i hx => by have := h i hx; omega
  refine read_run_ok (ls := [runWs is]) (f := numIn) hr (run_split hi hl) (fun ws hws => ?_) (by simp) (nums_runWs hi) (by have := runWs_len is; show (runWs is).length ≤ 2000; omega) ?_
  · rw [List.mem_singleton.mp hws]
    exact runWs_ln hi hl
  · rw [rd_run_ok (by omega) h]
    exact q
theorem firstOut_ok {n : Int} : ∀ (is : List Int) (k : Nat), (∀ i ∈ is, 0 ≤ i ∧ i < n) → firstOut n k (is.map D.int) = none
  | [], _, _ => rfl
  | i :: is, k, h => by
    have hi := h i (List.mem_cons_self ..)
    rw [List.map_cons]
    unfold firstOut
    have : whD (.int i) 0 (n - 1) = true := by
      simp only [whD, Bool.and_eq_true, decide_eq_true_eq]
      omega
    rw [this]
    exact firstOut_ok is (k + 1) fun j hj => h j (List.mem_cons_of_mem _ hj)
theorem runT_ok {n : Int} {is : List Int} (h : ∀ i ∈ is, 0 ≤ i ∧ i < n) (hl : is.length ≤ 1000) : runT n (.lds (is.map D.int)) = .inr (runTx (is.map D.int)) := by
  unfold runT
  simp only [tupl, List.length_map, decide_eq_false (show ¬ (1000 : Int) < (is.length : Nat) by omega), Bool.false_eq_true, if_false, firstOut_ok is 0 h]
theorem gd_ints {is : List Int} (h : ∀ i ∈ is, 0 ≤ i ∧ i < 100) : gd (.lds (is.map D.int)) = true := by
  show gdL (is.map D.int) = true
  exact gdL_map fun x hx => gd_int (by have := h x hx; omega) (by have := h x hx; omega)
theorem write_run {r : Rg} {is : List Int} (hr : RgN r) (h : ∀ i ∈ is, 0 ≤ i ∧ i < (r.moves.length : Int)) (hl : is.length ≤ 1000) (q : Q (.v (.str (runTx (is.map D.int)))) g) : den_run_text [rgD r, .lds (is.map D.int)] g Q E := by
  have h10 := hr.ten
  refine run_text_ok hr (gd_ints fun i hx => by have := h i hx; omega) ?_
  rw [runT_ok h hl]
  exact q
end
/-! ### the law's statements -/
theorem two_of {te : DE} {s : Sd} {d : D} {Q : DK} {E : DX} (h : ∀ {Q : DK} {E : DX}, Q (.v d) s → te s Q E) (q : Q (.ol [d, d]) s) : dLst (dCons te (dCons te dNil)) s Q E := by
  unfold dLst
  refine dcons_v h ?_
  refine dcons_v h ?_
  exact q
theorem ne_pair {te : DE} {k : Nat} {d : D} {s : Sd} {Dx : Dn} (h : ∀ {Q : DK} {E : DX}, Q (.v d) s → te s Q E) (hk : nthO s.e k = some (.v d)) (hd : okE 63 d = true) (q : Dx.nx s) : dIfS (dB (dOp gNe (dLst (dCons te (dCons te dNil))) (dLst (dCons (dVar k) (dCons (dVar k) dNil))))) (dRet (dC (.bl false))) dNext Dx s := by
  refine dif_bs false (s' := s) (fun {Q2 E2} q2 => ?_) q
  unfold dB dOp
  refine two_of h ?_
  refine two_of (fun {Q E} q => dvar_v hk q) ?_
  have e : gNe (.lst [d, d]) (.lst [d, d]) = rB false := gNe_refl (by
    show (okE 63 d && (okE 63 d && true)) = true
    rw [hd]; rfl)
  simp only [view, bindO, e, rB]
  exact q2
theorem ne_repr {te : DE} {k : Nat} {d : D} {s : Sd} {Dx : Dn} (h : ∀ {Q : DK} {E : DX}, Q (.v d) s → te s Q E) (hk : nthO s.e k = some (.v d)) (hg : gd d = true) (hs : szD d ≤ 1000) (hd : dpD d ≤ 10) (q : Dx.nx s) :
    dIfS (dB (dOp gNe (dUn gRepr (dLst (dCons te (dCons te dNil)))) (dUn gRepr (dLst (dCons (dVar k) (dCons (dVar k) dNil)))))) (dRet (dC (.bl false))) dNext Dx s := by
  refine dif_bs false (s' := s) (fun {Q2 E2} q2 => ?_) q
  have hg2 : gd (.lst [d, d]) = true := by
    show (gd d && (gd d && true)) = true
    rw [hg]; rfl
  have er : gRepr (.lst [d, d]) = some (.v (.str (shD (.lst [d, d])))) := gRepr_ok hg2 (by simp only [szD, szL]; omega) (by simp only [dpD, dpL]; omega)
  have en : gNe (.str (shD (.lst [d, d]))) (.str (shD (.lst [d, d]))) = rB false := by rw [gNe_sh hg2 hg2, beq_self_eq_true]; rfl
  unfold dB dOp
  unfold dUn
  refine two_of h ?_
  simp only [view, bindO, er]
  refine two_of (fun {Q E} q => dvar_v hk q) ?_
  simp only [view, bindO, er, en, rB]
  exact q2
theorem runtx_at {k p : Nat} {is : List Int} {s : Sd} {Q : DK} {E : DX} (hs : nthO s.e k = some (.v (.lds (is.map D.int)))) (hn : ∀ d, nthO ((s.wipe [p]).put p (.v d)).e p = some (.v d)) (hb : ∀ d, s.back ((s.wipe [p]).put p (.v d)) [p] = s)
    (h : ∀ i ∈ is, 0 ≤ i ∧ i < 100) (hl : is.length ≤ 1000) (q : Q (.v (.str (runTx (is.map D.int)))) s) : dIf (dB (dOp gNe (dVar k) (dTupK dNil))) (dMS gJoin (dC (.str " ")) (dLc (dSeqI (dVar k)) (.nm p) dYes (dUn gStr (dVar p)) [p])) (dC (.str "none")) s Q E := by
  unfold dIf dB dOp
  refine dvar_v hs ?_
  simp only [dTupK, dNil, fewL, guardB, view, bindO, gNe_t0, rB]
  cases is with
  | nil => exact q
  | cons i is =>
    show dMS gJoin (dC (.str " ")) (dLc (dSeqI (dVar k)) (.nm p) dYes (dUn gStr (dVar p)) [p]) s _ _
    have e : runTx ((i :: is).map D.int) = Txt.join sp ((i :: is).map nI) := by
      unfold runTx
      rw [words_of]
      rfl
    rw [e] at q
    generalize i :: is = js at *
    refine ms_join (ys := js.map nI) (B := 11) (r := .ol ((js.map nI).map D.str)) (s' := s) e_sp (fun {Q E} q => ?_) rfl (fun y hy => ?_) (by rw [List.length_map]; omega) q
    · unfold dLc dSeqI
      refine dvar_v hs ?_
      simp only [DL.settle, bindO, seqOf]
      exact lc_strs (fun j hj => by have := h j hj; omega) hn hb q
    · obtain ⟨j, hj, rfl⟩ := List.mem_map.mp hy
      have := h j hj
      exact (nI_wd (by omega) (by omega)).le

end Sag
namespace Sag
open PySem PySem.Spec PyProof.Rows L2 DL
/-! ### the lines of any text -/
def lnsOf (t : Str) : List (List Str) := (Txt.split t nl).map fun y => Txt.split y sp
theorem join_split_any (x : Str) (c : Nat) : Txt.join ⟨#[c]⟩ (Txt.split x ⟨#[c]⟩) = x :=
  (StrLaws.glued_eq_join ⟨#[c]⟩ (Txt.split x ⟨#[c]⟩)).trans (StrLaws.join_split x ⟨#[c]⟩)
theorem lns_join (t : Str) : (lnsOf t).map (Txt.join sp) = Txt.split t nl := by
  unfold lnsOf
  rw [List.map_map]
  have : ∀ l : List Str, l.map (Txt.join sp ∘ fun y => Txt.split y sp) = l := fun l => by
    induction l with
    | nil => rfl
    | cons a l ih =>
      rw [List.map_cons, ih]
      show Txt.join sp (Txt.split a sp) :: l = _
      rw [join_split_any a 32]
  exact this _
theorem gSplit_any {t : Str} {c : Nat} (h : t.length ≤ 100000) : gSplit (.str t) (.str ⟨#[c]⟩) = some (.ol ((Txt.split t ⟨#[c]⟩).map D.str)) := by
  show ifB (!((⟨#[c]⟩ : Str).length == 0) && decide (t.length + 2 ≤ 16777216)) _ = _
  rw [decide_eq_true (by omega)]
  rfl
theorem tailL_has {c : Nat} : ∀ {xs : List (List Nat)} {x : List Nat} {d : Nat}, x ∈ xs → d ∈ x → d ∈ tailL c xs
  | y :: r, x, d, hx, hd => by
    rcases List.mem_cons.mp hx with rfl | hx
    · exact List.mem_cons_of_mem _ (List.mem_append_left _ hd)
    · exact List.mem_cons_of_mem _ (List.mem_append_right _ (tailL_has hx hd))
theorem joinL_has {c : Nat} {xs : List (List Nat)} {x : List Nat} {d : Nat} (hx : x ∈ xs) (hd : d ∈ x) : d ∈ joinL c xs := by
  cases xs with
  | nil => cases hx
  | cons y r =>
    rcases List.mem_cons.mp hx with rfl | hx
    · exact List.mem_append_left _ hd
    · exact List.mem_append_right _ (tailL_has hx hd)
theorem tailL_len {c : Nat} : ∀ {xs : List (List Nat)}, xs.length ≤ (tailL c xs).length ∧ ∀ x ∈ xs, x.length ≤ (tailL c xs).length
  | [] => ⟨Nat.le_refl _, fun x h => by cases h⟩
  | y :: r => by
    obtain ⟨h1, h2⟩ := tailL_len (c := c) (xs := r)
    have e : (tailL c (y :: r)).length = y.length + (tailL c r).length + 1 := by
      show (c :: (y ++ tailL c r)).length = _
      rw [List.length_cons, List.length_append]
    refine ⟨by rw [e, List.length_cons]; omega, fun x hx => ?_⟩
    rw [e]
    rcases List.mem_cons.mp hx with rfl | hx
    · omega
    · have := h2 x hx; omega
theorem joinL_len {c : Nat} {xs : List (List Nat)} : xs.length ≤ (joinL c xs).length + 1 ∧ ∀ x ∈ xs, x.length ≤ (joinL c xs).length := by
  cases xs with
  | nil => exact ⟨Nat.zero_le _, fun x h => by cases h⟩
  | cons y r =>
    obtain ⟨h1, h2⟩ := tailL_len (c := c) (xs := r)
    have e : (joinL c (y :: r)).length = y.length + (tailL c r).length := by
      show (y ++ tailL c r).length = _
      rw [List.length_append]
    refine ⟨by rw [e, List.length_cons]; omega, fun x hx => ?_⟩
    rw [e]
    rcases List.mem_cons.mp hx with rfl | hx
    · omega
    · have := h2 x hx; omega
theorem split_cps (t : Str) (c : Nat) : joinL c ((Txt.split t ⟨#[c]⟩).map fun y => y.cps.toList) = t.cps.toList := by
  rw [← join_list, join_split_any]
theorem part_ok {t y : Str} {c : Nat} (ht : PS t) (hy : y ∈ Txt.split t ⟨#[c]⟩) : PS y ∧ y.length ≤ t.length := by
  have hm : y.cps.toList ∈ (Txt.split t ⟨#[c]⟩).map fun y => y.cps.toList := List.mem_map_of_mem hy
  constructor
  · intro d hd
    refine ht d ?_
    rw [← split_cps t c]
    exact joinL_has hm hd
  · rw [len_list, len_list, ← split_cps t c]
    exact joinL_len.2 _ hm
theorem parts_len (t : Str) (c : Nat) : (Txt.split t ⟨#[c]⟩).length ≤ t.length + 1 := by
  have h := (joinL_len (c := c) (xs := (Txt.split t ⟨#[c]⟩).map fun y => y.cps.toList)).1
  rw [split_cps, List.length_map, ← len_list] at h
  exact h
theorem lns_ne (t : Str) : lnsOf t ≠ [] := fun h => split_ne t nl (List.map_eq_nil_iff.mp h)
theorem lns_ln {t : Str} (ht : PS t) (hl : t.length ≤ 1000) {ws : List Str} (h : ws ∈ lnsOf t) : Ln ws := by
  obtain ⟨y, hy, rfl⟩ := List.mem_map.mp h
  obtain ⟨h1, h2⟩ := part_ok ht hy
  exact ⟨split_ne y sp, StrLaws.split_free y 32, fun z hz => (part_ok (c := 32) h1 hz).1, by rw [join_split_any y 32]; omega⟩
theorem lns_wd {t : Str} (ht : PS t) (hl : t.length ≤ 1000) {ws : List Str} (h : ws ∈ lnsOf t) : ws.length ≤ 1001 ∧ ∀ y ∈ ws, PS y ∧ y.length ≤ 1000 := by
  obtain ⟨y, hy, rfl⟩ := List.mem_map.mp h
  obtain ⟨h1, h2⟩ := part_ok ht hy
  exact ⟨by have h3 : (Txt.split y sp).length ≤ y.length + 1 := parts_len y 32; omega, fun z hz => by have := part_ok (c := 32) h1 hz; exact ⟨this.1, by omega⟩⟩
theorem lns_hd {t : Str} : (lnsOf t).headD [] ∈ lnsOf t := by
  cases h : lnsOf t with
  | nil => exact absurd h (lns_ne t)
  | cons a l => exact List.mem_cons_self ..
theorem lns_nums {t : Str} (ht : PS t) (hl : t.length ≤ 1000) : Nums numIn ((lnsOf t).headD []) := fun y hy => by
  obtain ⟨_, h⟩ := lns_wd ht hl lns_hd
  obtain ⟨h1, h2⟩ := h y hy
  exact ⟨fun i h => by have := numIn_rng h; omega, fun g Q E q => number_gen h1 (by omega) q⟩
theorem lns_split {t : Str} (hl : t.length ≤ 1000) : gSplit (.str t) (.str nl) = some (.ol (((lnsOf t).map (Txt.join sp)).map D.str)) := by
  rw [lns_join]
  exact gSplit_any (by omega)
section
variable {g : Gst} {Q : Rv → Gst → Prop} {E : Xd → Gst → Prop}
theorem read_run_any {r : Rg} {t : Str} (hr : RgN r) (ht : PS t) (hl : t.length ≤ 1000) (q : match rdRun numIn r.moves.length (lnsOf t) with
      | .inl p => E ⟨1, p⟩ g
      | .inr is => Q (.v (.lds (is.map D.int))) g) : den_read_run [rgD r, .str t] g Q E :=
  read_run_ok hr (lns_split hl) (fun ws h => lns_ln ht hl h) (lns_ne t) (lns_nums ht hl) (by have := (lns_wd ht hl (lns_hd (t := t))).1; omega) q
/-- what is said of a call -/
theorem said_v {J : Clo} {L : Den} {d : D} (h : ∀ {Q : Rv → Gst → Prop} {E : Xd → Gst → Prop}, Q (.v d) g → L [] g Q E) (q : Q (.ol [d]) g) : den__law_said J L [J.d] g Q E := by
  unfold den__law_said body__law_said dFn
  show dSeq _ _ _ ⟨[some (.v J.d), none, none, none, none], g⟩
  apply dSeq_at (s' := ⟨[some (.v J.d), some (.v .non), some (.v .non), none, none], g⟩)
  · exact fun N h => h
  apply dSeq_at (s' := ⟨[some (.v J.d), some (.v .non), some (.v d), none, none], g⟩)
  · intro N k
    unfold dTry dSet dCallL Clo.d
    exact ⟨rfl, h k⟩
  exact q
theorem said_rig {J : Clo} {L : Den} {p : D} (h : ∀ {Q : Rv → Gst → Prop} {E : Xd → Gst → Prop}, E ⟨0, p⟩ g → L [] g Q E) (q : Q (.v (.lds [.str "rig", p])) g) : den__law_said J L [J.d] g Q E := by
  unfold den__law_said body__law_said dFn
  show dSeq _ _ _ ⟨[some (.v J.d), none, none, none, none], g⟩
  apply dSeq_at (s' := ⟨[some (.v J.d), some (.v .non), some (.v .non), none, none], g⟩)
  · exact fun N h => h
  apply dSeq_at (s' := ⟨[some (.v J.d), some (.v (.exc 0 p)), some (.v .non), none, none], g⟩)
  · intro N k
    unfold dTry dSet dCallL Clo.d
    exact ⟨rfl, h k⟩
  exact q
theorem said_text {J : Clo} {L : Den} {p : D} (h : ∀ {Q : Rv → Gst → Prop} {E : Xd → Gst → Prop}, E ⟨1, p⟩ g → L [] g Q E) (q : Q (.v (.lds [.str "text", p])) g) : den__law_said J L [J.d] g Q E := by
  unfold den__law_said body__law_said dFn
  show dSeq _ _ _ ⟨[some (.v J.d), none, none, none, none], g⟩
  apply dSeq_at (s' := ⟨[some (.v J.d), some (.v .non), some (.v .non), none, none], g⟩)
  · exact fun N h => h
  apply dSeq_at (s' := ⟨[some (.v J.d), some (.v (.exc 1 p)), some (.v .non), none, none], g⟩)
  · intro N k
    unfold dTry dSet dCallL Clo.d
    exact ⟨rfl, h k⟩
  exact q
theorem said_run {J : Clo} {L : Den} {p : D} (h : ∀ {Q : Rv → Gst → Prop} {E : Xd → Gst → Prop}, E ⟨3, p⟩ g → L [] g Q E) (q : Q (.v (.lds [.str "run", p])) g) : den__law_said J L [J.d] g Q E := by
  unfold den__law_said body__law_said dFn
  show dSeq _ _ _ ⟨[some (.v J.d), none, none, none, none], g⟩
  apply dSeq_at (s' := ⟨[some (.v J.d), some (.v .non), some (.v .non), none, none], g⟩)
  · exact fun N h => h
  apply dSeq_at (s' := ⟨[some (.v J.d), some (.v (.exc 3 p)), some (.v .non), none, none], g⟩)
  · intro N k
    unfold dTry dSet dCallL Clo.d
    exact ⟨rfl, h k⟩
  exact q
theorem range_strs (k : Nat) : (rangeD 0 k).map strOf = (List.range k).map fun (i : Nat) => D.str (nI (i : Int)) := by
  unfold rangeD
  rw [List.map_map]
  refine List.map_congr_left fun i _ => ?_
  show D.str (nI (0 + (i : Int))) = _
  rw [Int.zero_add]
theorem any_num {y : Str} {n : Int} (h0 : 0 ≤ n) (h1 : n ≤ 100) : ((List.range n.toNat).any fun i => nI (i : Int) == y) = inMv n (numIn y) := by
  cases hn : numIn y with
  | none =>
    show _ = false
    rw [List.any_eq_false]
    intro i hi
    rw [List.mem_range] at hi
    intro z
    have e := beq_iff_eq.mp z
    have := numIn_nI (i := (i : Int)) (by omega) (by omega)
    rw [e, hn] at this
    cases this
  | some j =>
    have hy := numIn_word hn
    have hr := numIn_rng hn
    show _ = (decide (0 ≤ j) && decide (j ≤ n - 1))
    by_cases hj : j ≤ n - 1
    · rw [decide_eq_true hr.1, decide_eq_true hj]
      show _ = true
      rw [List.any_eq_true]
      refine ⟨j.toNat, by rw [List.mem_range]; omega, ?_⟩
      have : ((j.toNat : Nat) : Int) = j := by omega
      rw [this, hy]
      exact beq_self_eq_true _
    · rw [decide_eq_false hj, Bool.and_false, List.any_eq_false]
      intro i hi
      rw [List.mem_range] at hi
      intro z
      have e := beq_iff_eq.mp z
      have := numIn_nI (i := (i : Int)) (by omega) (by omega)
      rw [e, hn] at this
      cases this
      omega
theorem law_number_ok {y : Str} {n : Int} (h0 : 0 ≤ n) (h1 : n ≤ 100) (hp : PS y) (q : Q (.v (.bl (inMv n (numIn y)))) g) : den__law_number [.str y, .int n] g Q E := by
  have hg : (decide ((-16777216 : Int) ≤ n) && decide (n ≤ 16777216)) = true := by
    rw [decide_eq_true (by omega), decide_eq_true (by omega)]; rfl
  have hin : gIn (.str y) (.lst ((rangeD 0 n.toNat).map strOf)) = some (.v (.bl (inMv n (numIn y)))) := by
    rw [range_strs]
    have hok : ∀ l : List Nat, okEL 60 (l.map fun (i : Nat) => D.str (nI (i : Int))) = true := fun l => by
      induction l with
      | nil => rfl
      | cons a l ih =>
        show (okE 60 (.str (nI (a : Int))) && okEL 60 (l.map _)) = true
        rw [ih, show okE 60 (.str (nI (a : Int))) = true from strOk_of (nS_ps _)]
        rfl
    have hany : ∀ l : List Nat, anyEq (l.map fun (i : Nat) => D.str (nI (i : Int))) (.str y) = l.any fun i => nI (i : Int) == y := fun l => by
      unfold anyEq
      rw [List.any_map]
      rfl
    show ifB (okE 60 (.str y) && okEL 60 _) (rB (anyEq _ (.str y))) = _
    rw [hok, hany, any_num h0 h1, show okE 60 (.str y) = true from strOk_of hp]
    rfl
  unfold den__law_number body__law_number dFn
  show dRet _ _ ⟨[some (.v (.str y)), some (.v (.int n)), none], g⟩
  simp only [dRet, dOp, dVar, nthO, dLc, dRng1, view, bindO, DL.intD]
  rw [hg]
  simp only [guardB]
  refine lc_map strOf (fun _ => rfl) (fun d hd Q1 E1 q1 => ?_) ?_
  · obtain ⟨i, hi, rfl⟩ := rangeD_mem hd
    have e := gStr_int (i := 0 + (i : Int)) (by omega) (by omega)
    unfold dUn
    refine dvar_v rfl ?_
    simp only [view, bindO, e]
    exact q1
  · simp only [hin]
    exact q
end

end Sag
namespace Sag
open PySem PySem.Spec PyProof.Rows L2 DL
theorem lc_zip {pat : Pat} {vs : List Nat} {te : DE} {s0 : Sd} {Q' : DK} {E' : DX} (st : D → Sd) : ∀ (l rs : List D), l.length = rs.length → (∀ d ∈ l, patStore pat d (s0.wipe vs) = some (st d)) → (∀ d ∈ l, s0.back (st d) vs = s0) →
    (∀ p ∈ l.zip rs, ∀ (Q1 : DK) E1, Q1 (.v p.2) (st p.1) → te (st p.1) Q1 E1) → ∀ acc, Q' (.ol (acc ++ rs)) s0 → lcD pat dYes te vs s0 Q' E' l acc s0
  | [], [], _, _, _, _, acc, q => by simpa [lcD] using q
  | [], _ :: _, h, _, _, _, _, _ => by cases h
  | _ :: _, [], h, _, _, _, _, _ => by cases h
  | d :: l, x :: rs, hl, hp, hb, he, acc, q => by
    have ih := lc_zip (Q' := Q') (te := te) (E' := E') st l rs (Nat.succ.inj hl) (fun x hx => hp x (List.mem_cons_of_mem _ hx)) (fun x hx => hb x (List.mem_cons_of_mem _ hx)) fun p hp => he p (List.mem_cons_of_mem _ hp)
    have m := List.mem_cons_self (a := d) (l := l)
    rw [lcD, hp d m]
    show te (st d) _ E'
    refine he (d, x) (List.mem_cons_self ..) _ _ ?_
    show lcD pat dYes te vs s0 Q' E' l (acc ++ [x]) (s0.back (st d) vs)
    rw [hb d m]
    refine ih _ ?_
    simpa using q
theorem dB_bl {te : DE} {s s' : Sd} {Q : Bool → Sd → Prop} {E : DX} {b : Bool} (h : ∀ {Q1 : DK} {E1 : DX}, Q1 (.v (.bl b)) s' → te s Q1 E1) (q : Q b s') : dB te s Q E := by
  unfold dB
  refine h ?_
  exact q
theorem dcall_now {F : Den} {n : Nat} {dds : List D} {t : DA} {s : Sd} {Q1 : DK} {E1 : DX} (h : t s (fun ds s1 => guardB (ds.length == n) (F (ds ++ dds) s1.g (fun r g' => Q1 r ⟨s1.e, g'⟩) (fun x g' => E1 x ⟨s1.e, g'⟩))) E1) : dCall F n dds t s Q1 E1 := h
theorem dOp_l {op : DOp} {te1 te2 : DE} {s : Sd} {d1 d2 : D} {Q1 : DK} {E1 : DX} {z : Rv} (h1 : ∀ {Q : DK} {E : DX}, Q (.v d1) s → te1 s Q E) (h2 : ∀ {Q : DK} {E : DX}, Q (.v d2) s → te2 s Q E) (h : op d1 d2 = some z) (q : Q1 z s) : dOp op te1 te2 s Q1 E1 := by
  unfold dOp
  refine h1 ?_
  refine h2 ?_
  simp only [view, bindO, h]
  exact q
theorem app_ol {k : Nat} {acc l : List D} {te : DE} {s : Sd} {Dx : Dn} (hs : nthO s.e k = some (.ol acc)) (ha : acc.length ≤ 2000) (h : ∀ (Q : DK) (E : DX), Q (.ol l) s → te s Q E) (q : Dx.nx (s.put k (.ol (acc ++ [.lst l])))) : dDrop (dAppend (dVar k) te) Dx s := by
  unfold dDrop dAppend
  refine dvar_ol hs ?_
  simp only [olAt, hs, bindO]
  refine h _ _ ?_
  have hf : fitN (acc.length + 1) = true := decide_eq_true (by omega)
  simp only [DL.settle, bindO, olAt, hs, hf, guardB]
  exact q
theorem dcons_ol {te : DE} {ts : DA} {s s' : Sd} {K : List D → Sd → Prop} {E : DX} {l : List D} (h : ∀ {Q : DK} {E : DX}, Q (.ol l) s' → te s Q E) (q : ts s' (fun ds s3 => K (.lst l :: ds) s3) E) : dCons te ts s K E := by
  unfold dCons
  refine h ?_
  exact q
/-! ### the law's own reading of a run -/
def dueR (o : D ⊕ List Int) : Rv := match o with
  | .inl p => .v (.lds [.str "text", p])
  | .inr is => .ol [.lds (is.map D.int)]
def ruA : DS := dSet 2 (dLc (dSeqI (dMS gSplit (dVar 1) (dC (.str "\n")))) (.nm 5) dYes (dMS gSplit (dVar 5) (dC (.str " "))) [5])
def ruB : DS := dIfS (dAnd (dB (dOp gEq (dOp gIx (dOp gIx (dVar 2) (dC (.int 0))) (dC (.int 0))) (dC (.str "none")))) (dB (dOp gGt (dUn gLen (dOp gIx (dVar 2) (dC (.int 0)))) (dC (.int 1))))) (dRet (dTupK (dCons (dC (.str "text")) (dCons (dTupK (dCons (dC (.int 0)) (dCons (dC (.int 1)) dNil))) dNil)))) dNext
def ruCb : DS := dIfS (dNot (dB (dCall den__law_number 2 [] (dCons (dVar 4) (dCons (dUn gLen (dOp gIx (dVar 0) (dC (.int 1)))) dNil))))) (dRet (dTupK (dCons (dC (.str "text")) (dCons (dTupK (dCons (dC (.int 0)) (dCons (dVar 3) dNil))) dNil)))) dNext
def ruCl : DS := dFor (dEnum (dOp gIx (dVar 2) (dC (.int 0)))) (.tu [3, 4]) ruCb
def ruC : DS := dIfS (dB (dOp gNe (dOp gIx (dVar 2) (dC (.int 0))) (dLst (dCons (dC (.str "none")) dNil)))) ruCl dNext
def ruD : DS := dIfS (dB (dOp gGt (dUn gLen (dVar 2)) (dC (.int 1)))) (dRet (dTupK (dCons (dC (.str "text")) (dCons (dTupK (dCons (dC (.int 1)) (dCons (dC (.int 0)) dNil))) dNil)))) dNext
def ruE : DS := dRet (dLst (dCons (dIf (dB (dOp gEq (dOp gIx (dVar 2) (dC (.int 0))) (dLst (dCons (dC (.str "none")) dNil)))) (dTupK dNil) (dUn gTupK (dLc (dSeqI (dOp gIx (dVar 2) (dC (.int 0)))) (.nm 4) dYes (dUn gIntS (dVar 4)) [4]))) dNil))
theorem ru_eq : body__law_run_due = dSeq ruA (dSeq ruB (dSeq ruC (dSeq ruD ruE))) := rfl
def isNone1 (ws : List Str) : Bool := match ws with
  | [w] => w == "none"
  | _ => false
theorem eqL_none {ws : List Str} : eqL (ws.map D.str) [.str "none"] = isNone1 ws := by
  match ws with
  | [] => rfl
  | [w] => show ((w == "none") && true) = _; rw [Bool.and_true]; rfl
  | w :: w2 :: r => show ((w == "none") && false) = _; rw [Bool.and_false]; rfl
theorem okEL_strs : ∀ {ws : List Str} {n : Nat}, (∀ y ∈ ws, PS y) → okEL n (ws.map D.str) = true
  | [], n, _ => by cases n <;> rfl
  | y :: ws, n, h => by
    have ih := okEL_strs (ws := ws) (n := n) fun z hz => h z (List.mem_cons_of_mem _ hz)
    have e : okE n (.str y) = true := by cases n <;> exact strOk_of (h y (List.mem_cons_self ..))
    show okEL n (D.str y :: ws.map D.str) = true
    unfold okEL
    rw [e, ih]
    rfl
theorem lnD_ne {ws : List Str} (hne : ws ≠ []) (h : ∀ y ∈ ws, PS y) : gNe (lnD ws) (.lst [.str "none"]) = rB (!isNone1 ws) ∧ gEq (lnD ws) (.lst [.str "none"]) = rB (isNone1 ws) := by
  have h1 : okE 64 (lnD ws) = true := okEL_strs (n := 63) h
  have h2 : okE 64 (.lst [.str "none"]) = true := by decide +kernel
  have h3 : eqD (lnD ws) (.lst [.str "none"]) = isNone1 ws := eqL_none
  have h0 : eq0 (lnD ws) (.lst [.str "none"]) = none := by
    cases ws with
    | nil => exact (hne rfl).elim
    | cons a l => rfl
  unfold gNe gEq
  rw [h0, h1, h2, h3]
  exact ⟨rfl, rfl⟩
section
variable {g : Gst} {Q : Rv → Gst → Prop} {E : Xd → Gst → Prop} {Dx : Dn} {x2 x3 x4 x5 : Option Sv}
abbrev RU (r : Rg) (t : Str) (x2 x3 x4 x5 : Option Sv) (g : Gst) : Sd := ⟨[some (.v (rgD r)), some (.v (.str t)), x2, x3, x4, x5], g⟩
theorem ruA_ok {r : Rg} {t : Str} {ls : List (List Str)} (ht : gSplit (.str t) (.str nl) = some (.ol ((ls.map (Txt.join sp)).map D.str))) (hw : ∀ ws ∈ ls, Ln ws) (q : Dx.nx (RU r t (some (.ol (ls.map lnD))) none none none g)) : ruA Dx (RU r t none none none none g) := by
  unfold ruA dSet dLc dSeqI dMS
  refine dvar_v rfl ?_
  simp only [view, bindO, dC, e_nl, ht, DL.settle, seqOf]
  refine lc_res (fun d => ⟨[some (.v (rgD r)), some (.v (.str t)), none, none, none, some (.v d)], g⟩) (fun d => .ol (wordsD d)) (fun d => .lst (wordsD d)) (fun _ _ => rfl) ((ls.map (Txt.join sp)).map D.str) (fun _ _ => rfl) (fun _ _ => rfl) (fun d hd Q1 E1 q1 => ?_) [] ?_
  · obtain ⟨y, hy, rfl⟩ := List.mem_map.mp hd
    obtain ⟨ws, hws, rfl⟩ := List.mem_map.mp hy
    have h1 := ln_split (hw ws hws)
    have h2 : Txt.split (Txt.join sp ws) sp = ws := split_join (hw ws hws).ne (hw ws hws).nb
    have h3 : wordsD (.str (Txt.join sp ws)) = ws.map D.str := by show (Txt.split (Txt.join sp ws) sp).map D.str = _; rw [h2]
    rw [h3] at q1
    refine dvar_v rfl ?_
    simp only [view, bindO, e_sp, h1]
    exact q1
  · have h3 : ((ls.map (Txt.join sp)).map D.str).map (fun d => D.lst (wordsD d)) = ls.map lnD := by
      rw [List.map_map, List.map_map]
      refine List.map_congr_left fun ws hws => ?_
      have h2 : Txt.split (Txt.join sp ws) sp = ws := split_join (hw ws hws).ne (hw ws hws).nb
      show D.lst ((Txt.split (Txt.join sp ws) sp).map D.str) = D.lst (ws.map D.str)
      rw [h2]
    rw [h3]
    exact q
theorem ruB_ok {r : Rg} {t : Str} {L : List D} {w : Str} {r1 : List Str} (hi : gIx (.lst L) (.int 0) = some (.v (lnD (w :: r1)))) (hp : PS w) (q : if (w == "none") && decide (1 < (w :: r1).length) then (∀ s, s.g = g → Dx.rt (.v (.lds [.str "text", .lds [.int 0, .int 1]])) s) else Dx.nx (RU r t (some (.ol L)) x3 x4 x5 g)) : ruB Dx (RU r t (some (.ol L)) x3 x4 x5 g) := by
  have h0 : gIx (lnD (w :: r1)) (.int 0) = some (.v (.str w)) := gIx_lk0 (l := (w :: r1).map D.str) rfl
  have he : gEq (.str w) (.str "none") = rB (w == "none") := gEq_str (strOk_of hp) (strOk_of wd_none.ps)
  have hl : gLen (lnD (w :: r1)) = some (.v (.int (((w :: r1).map D.str).length : Nat))) := gLen_l
  have hgt : gGt (.int (((w :: r1).map D.str).length : Nat)) (.int 1) = rB (decide (1 < (w :: r1).length)) := by
    rw [List.length_map]
    show rB (decide ((1 : Int) < (((w :: r1).length : Nat) : Int))) = _
    congr 1
    exact decide_eq_decide.mpr (by omega)
  generalize hN : decide (1 < (w :: r1).length) = many at *
  generalize lnD (w :: r1) = W at *
  unfold ruB
  refine dif_bs ((w == "none") && many) (s' := RU r t (some (.ol L)) x3 x4 x5 g) (fun {Q2 E2} q2 => ?_) ?_
  · simp only [dAnd, dB, dOp, dVar, nthO, dC, view, bindO, hi, h0, he, rB]
    cases hw : (w == "none") with
    | false =>
      rw [hw] at q2
      exact q2
    | true =>
      rw [hw] at q2
      simp only [dUn, dOp, dVar, nthO, dC, view, bindO, hi, hl, hgt, rB]
      exact q2
  · cases hc : ((w == "none") && many) with
    | true => rw [hc] at q; exact q _ rfl
    | false => rw [hc] at q; exact q
theorem ruC_loop {r : Rg} {t : Str} {L : Option Sv} (hr : RgN r) (D1 : Dn) : ∀ (ws : List Str) (k : Nat) (acc : List Int) (x3 x4 : Option Sv), keepV x4 = x4 → (∀ y ∈ ws, PS y) → (match rdWords numIn r.moves.length k ws acc with
      | .inl k => ∀ s, s.g = g → D1.rt (.v (.lds [.str "text", .lds [.int 0, .int (k : Nat)]])) s
      | .inr _ => ∀ x3 x4, keepV x4 = x4 → D1.nx (RU r t L x3 x4 x5 g)) → forD (.tu [3, 4]) ruCb D1 (numbered k (ws.map D.str)) (RU r t L x3 x4 x5 g) := by
  intro ws
  induction ws with
  | nil =>
    intro k acc x3 x4 h4 _ q
    exact q _ _ h4
  | cons y ws ih =>
    intro k acc x3 x4 h4 hp q
    have h10 := hr.ten
    have hi1 : gIx (rgD r) (.int 1) = some (.v (.lds (r.moves.map mvD))) := rfl
    rw [List.map_cons]
    rw [show DL.numbered k (.str y :: ws.map D.str) = .tup [.int (k : Nat), .str y] :: DL.numbered (k + 1) (ws.map D.str) from rfl]
    unfold forD
    generalize hF : forD (.tu [3, 4]) ruCb D1 (numbered (k + 1) (ws.map D.str)) = F
    show ruCb { D1 with nx := F, ct := F, bk := D1.nx } (RU r t L (some (.v (.int (k : Nat)))) (some (.v (.str y))) x5 g)
    unfold ruCb
    refine dif_bs (!inMv r.moves.length (numIn y)) (s' := RU r t L (some (.v (.int (k : Nat)))) (some (.v (.str y))) x5 g) (fun {Q2 E2} q2 => ?_) ?_
    · unfold dNot
      refine dB_bl (b := inMv r.moves.length (numIn y)) (s' := RU r t L (some (.v (.int (k : Nat)))) (some (.v (.str y))) x5 g) (fun {Q1 E1} q1 => ?_) q2
      refine call_gen [.str y, .int (r.moves.length : Nat)] (RU r t L (some (.v (.int (k : Nat)))) (some (.v (.str y))) x5 g) (fun K E2 q2 => ?_) rfl (law_number_ok (by omega) (by omega) (hp y (List.mem_cons_self ..)) q1)
      simp only [dCons, dNil, dVar, nthO, DL.settle, bindO, dOp, dUn, dC, view, hi1, gLen_t, List.length_map]
      exact q2
    unfold rdWords at q
    cases hf : numIn y with
    | none =>
      rw [hf] at q
      exact q _ rfl
    | some i =>
      rw [hf] at q
      simp only at q
      show if (!(decide (0 ≤ i) && decide (i ≤ (r.moves.length : Int) - 1))) = true then _ else _
      cases hi : (decide (0 ≤ i) && decide (i ≤ (r.moves.length : Int) - 1)) with
      | false =>
        rw [hi] at q
        exact q _ rfl
      | true =>
        rw [hi] at q
        simp only [Bool.not_true, Bool.false_eq_true, if_false, if_true] at q ⊢
        show F _
        rw [← hF]
        exact ih (k + 1) (acc ++ [i]) _ _ rfl (fun z hz => hp z (List.mem_cons_of_mem _ hz)) q
theorem rdWords_inr {n : Int} : ∀ {ws : List Str} {k : Nat} {acc is : List Int}, rdWords numIn n k ws acc = .inr is → ∃ js : List Int, is = acc ++ js ∧ ws = js.map nI ∧ ∀ j ∈ js, 0 ≤ j ∧ j < 100000
  | [], k, acc, is, h => by
    unfold rdWords at h
    cases h
    exact ⟨[], by simp, rfl, by simp⟩
  | y :: ws, k, acc, is, h => by
    unfold rdWords at h
    cases hf : numIn y with
    | none => rw [hf] at h; cases h
    | some i =>
      rw [hf] at h
      simp only at h
      split at h
      · obtain ⟨js, e1, e2, e3⟩ := rdWords_inr h
        exact ⟨i :: js, by rw [e1, List.append_assoc]; rfl, by rw [List.map_cons, ← e2, ← numIn_word hf], fun j hj => by
          rcases List.mem_cons.mp hj with rfl | hj
          · exact numIn_rng hf
          · exact e3 j hj⟩
      · cases h
theorem ruD_ok {r : Rg} {t : Str} {L : List D} (q : if decide (1 < L.length) then (∀ s, s.g = g → Dx.rt (.v (.lds [.str "text", .lds [.int 1, .int 0]])) s) else Dx.nx (RU r t (some (.ol L)) x3 x4 x5 g)) : ruD Dx (RU r t (some (.ol L)) x3 x4 x5 g) := by
  have e : gGt (.int (L.length : Nat)) (.int 1) = rB (decide (1 < L.length)) := by
    show rB (decide ((1 : Int) < ((L.length : Nat) : Int))) = _
    congr 1
    exact decide_eq_decide.mpr (by omega)
  unfold ruD
  refine dif_bs (decide (1 < L.length)) (s' := RU r t (some (.ol L)) x3 x4 x5 g) (fun {Q2 E2} q2 => ?_) ?_
  · simp only [dB, dOp, dUn, dVar, nthO, view, bindO, dC, gLen_l, e, rB]
    exact q2
  cases h : decide (1 < L.length) with
  | true => rw [h] at q; exact q _ rfl
  | false => rw [h] at q; exact q
theorem ruE_none {r : Rg} {t : Str} {L : List D} {ws : List Str} (hi : gIx (.lst L) (.int 0) = some (.v (lnD ws))) (he : gEq (lnD ws) (.lst [.str "none"]) = rB true) (q : ∀ s, s.g = g → Dx.rt (.ol [.lds []]) s) : ruE Dx (RU r t (some (.ol L)) x3 x4 x5 g) := by
  generalize lnD ws = W at *
  simp only [ruE, dRet, dLst, dCons, dIf, dB, dOp, dVar, nthO, dC, view, bindO, hi, dNil, DL.settle, fewL, guardB, List.length_cons, List.length_nil, he, rB, dTupK]
  exact q _ rfl
theorem ruE_nums {r : Rg} {t : Str} {L : List D} {js : List Int} (h4 : keepV x4 = x4) (hi : gIx (.lst L) (.int 0) = some (.v (lnD (js.map nI)))) (he : gEq (lnD (js.map nI)) (.lst [.str "none"]) = rB false) (hj : ∀ j ∈ js, 0 ≤ j ∧ j < 100000) (q : ∀ s, s.g = g → Dx.rt (.ol [.lds (js.map D.int)]) s) : ruE Dx (RU r t (some (.ol L)) x3 x4 x5 g) := by
  have hs : seqOf (lnD (js.map nI)) = some ((js.map nI).map D.str) := rfl
  generalize lnD (js.map nI) = W at *
  unfold ruE dRet dLst
  refine dcons_now ?_
  simp only [dIf, dB, dOp, dVar, nthO, dC, view, bindO, hi, dLst, dCons, dNil, DL.settle, fewL, guardB, List.length_cons, List.length_nil, he, rB, dUn, dLc, dSeqI, hs]
  refine lc_zip (fun d => ⟨[some (.v (rgD r)), some (.v (.str t)), some (.ol L), x3, some (.v d), x5], g⟩) ((js.map nI).map D.str) (js.map D.int) (by simp) (fun _ _ => rfl) (fun d hd => ?_) (fun p hp Q1 E1 q1 => ?_) [] ?_
  · show (⟨[some (.v (rgD r)), some (.v (.str t)), some (.ol L), x3, keepV x4, x5], g⟩ : Sd) = _
    rw [h4]
  · rw [List.map_map, List.zip_map'] at hp
    obtain ⟨j, hjm, rfl⟩ := List.mem_map.mp hp
    have hb := hj j hjm
    have e : gIntS (.str (nI j)) = some (.v (.int j)) := by
      have k := gIntS_nS (n := j.toNat) (by omega)
      have z : ((j.toNat : Nat) : Int) = j := by omega
      rw [z] at k
      exact k
    show dUn gIntS (dVar 4) _ Q1 E1
    unfold dUn
    refine dvar_v rfl ?_
    simp only [Function.comp, view, bindO, e]
    exact q1
  · exact q _ rfl
theorem ru_all {r : Rg} {t : Str} {ls : List (List Str)} {D1 : Dn} (hr : RgN r) (ht : gSplit (.str t) (.str nl) = some (.ol ((ls.map (Txt.join sp)).map D.str))) (hw : ∀ ws ∈ ls, Ln ws) (hne : ls ≠ [])
    (q : ∀ s, s.g = g → D1.rt (dueR (rdRun numIn r.moves.length ls)) s) : dSeq ruA (dSeq ruB (dSeq ruC (dSeq ruD ruE))) D1 (RU r t none none none none g) := by
  apply dSeq_at (s' := RU r t (some (.ol (ls.map lnD))) none none none g)
  · intro N h
    exact ruA_ok ht hw h
  obtain ⟨ws, rest, rfl⟩ : ∃ ws rest, ls = ws :: rest := by
    cases ls with
    | nil => exact (hne rfl).elim
    | cons ws rest => exact ⟨ws, rest, rfl⟩
  have hL := hw ws (List.mem_cons_self ..)
  have hlen : ((ws :: rest).map lnD).length = (ws :: rest).length := List.length_map ..
  have hi : gIx (.lst ((ws :: rest).map lnD)) (.int 0) = some (.v (lnD ws)) := gIx_lk0 rfl
  unfold rdRun at q
  rw [show (ws :: rest).headD [] = ws from rfl] at q
  generalize (ws :: rest).map lnD = L at *
  obtain ⟨w, r1, rfl⟩ : ∃ w r1, ws = w :: r1 := by
    cases ws with
    | nil => exact (hL.ne rfl).elim
    | cons w r1 => exact ⟨w, r1, rfl⟩
  obtain ⟨n1, n2⟩ := lnD_ne hL.ne hL.ps
  have q0 : ∀ o, rdLine numIn r.moves.length (w :: r1) = o → ∀ s, s.g = g → D1.rt (dueR (match o with
      | .inl p => .inl p
      | .inr is => if decide (1 < ((w :: r1) :: rest).length) then .inl (.lds [.int 1, .int 0]) else .inr is)) s := fun o e => by rw [← e]; exact q
  clear q
  apply dSeq_now
  refine ruB_ok hi (hL.ps w (List.mem_cons_self ..)) ?_
  cases hwn : (w == "none") with
  | true =>
    cases hmany : decide (1 < (w :: r1).length) with
    | true =>
      have e : rdLine numIn r.moves.length (w :: r1) = .inl (.lds [.int 0, .int 1]) := by
        unfold rdLine
        rw [show (w :: r1).headD "" = w from rfl, hwn, hmany]
        rfl
      have q1 := q0 _ e
      exact q1
    | false =>
      have e : rdLine numIn r.moves.length (w :: r1) = .inr [] := by
        unfold rdLine
        rw [show (w :: r1).headD "" = w from rfl, hwn, hmany]
        rfl
      have q1 := q0 _ e
      have hr1 : r1 = [] := by
        have := of_decide_eq_false hmany
        simp only [List.length_cons] at this
        exact List.length_eq_zero_iff.mp (by omega)
      subst hr1
      have e1 : isNone1 [w] = true := hwn
      rw [e1] at n1 n2
      simp only [Bool.true_and, Bool.false_eq_true, if_false]
      apply dSeq_at (s' := RU r t (some (.ol L)) none none none g)
      · intro N h
        unfold ruC
        refine dif_bs false (s' := RU r t (some (.ol L)) none none none g) (fun {Q2 E2} q2 => ?_) h
        simp only [dB, dOp, dVar, nthO, dC, view, bindO, hi, dLst, dCons, dNil, DL.settle, fewL, guardB, List.length_cons, List.length_nil, n1, Bool.not_true, rB]
        exact q2
      apply dSeq_now
      refine ruD_ok ?_
      rw [hlen]
      cases h1 : decide (1 < ([w] :: rest).length) with
      | true =>
        rw [h1] at q1
        exact q1
      | false =>
        rw [h1] at q1
        exact ruE_none hi n2 q1
  | false =>
    have e1 : isNone1 (w :: r1) = false := by
      cases r1 with
      | nil => exact hwn
      | cons a l => rfl
    rw [e1] at n1 n2
    have eL : rdLine numIn r.moves.length (w :: r1) = match rdWords numIn r.moves.length 0 (w :: r1) [] with
        | .inl k => .inl (.lds [.int 0, .int (k : Nat)])
        | .inr is => .inr is := by
      unfold rdLine
      rw [show (w :: r1).headD "" = w from rfl, hwn]
      rfl
    simp only [Bool.false_and, Bool.false_eq_true, if_false]
    apply dSeq_now
    unfold ruC
    refine dif_bs true (s' := RU r t (some (.ol L)) none none none g) (fun {Q2 E2} q2 => ?_) ?_
    · simp only [dB, dOp, dVar, nthO, dC, view, bindO, hi, dLst, dCons, dNil, DL.settle, fewL, guardB, List.length_cons, List.length_nil, n1, Bool.not_false, rB]
      exact q2
    simp only [if_true]
    have hp := hL.ps
    generalize w :: r1 = ws at *
    have hs : seqOf (lnD ws) = some (ws.map D.str) := rfl
    unfold ruCl dFor dEnum dOp
    refine dvar_ol rfl ?_
    simp only [view, nthO, dC, bindO, hi, DL.settle, hs]
    refine ruC_loop hr _ ws 0 [] none none rfl hp ?_
    cases hR : rdWords numIn r.moves.length 0 ws [] with
    | inl k =>
      rw [hR] at eL
      exact q0 _ eL
    | inr is =>
      rw [hR] at eL
      have q1 := q0 _ eL
      obtain ⟨js, j1, j2, j3⟩ := rdWords_inr hR
      rw [List.nil_append] at j1
      subst j1
      intro x3 x4 h4
      show dSeq ruD ruE D1 (RU r t (some (.ol L)) x3 x4 none g)
      apply dSeq_now
      refine ruD_ok ?_
      rw [hlen]
      cases h1 : decide (1 < (ws :: rest).length) with
      | true =>
        rw [h1] at q1
        exact q1
      | false =>
        rw [h1] at q1
        rw [j2] at hi n2
        exact ruE_nums h4 hi n2 j3 q1
theorem run_due_ok {r : Rg} {t : Str} (hr : RgN r) (ht : PS t) (hl : t.length ≤ 1000) (q : Q (dueR (rdRun numIn r.moves.length (lnsOf t))) g) : den__law_run_due [rgD r, .str t] g Q E := by
  unfold den__law_run_due
  rw [ru_eq]
  unfold dFn
  apply ru_all hr (lns_split hl) (fun ws h => lns_ln ht hl h) (lns_ne t)
  intro s h
  subst h
  generalize rdRun numIn r.moves.length (lnsOf t) = R at q
  cases R with
  | inl p => exact q
  | inr is => exact q
end

end Sag
namespace Sag
open PySem PySem.Spec PyProof.Rows L2 DL
/-! ### runs right -/
def yA : DS := dSet 2 (dUn gLen (dOp gIx (dVar 1) (dC (.int 1))))
def yB : DS := dSet 8 (dUn gTupK (dLc (dRng1 (dCall den__law_next 2 [] (dCons (dVar 0) (dCons (dC (.int 5)) dNil)))) (.nm 3) dYes (dCall den__law_next 2 [] (dCons (dVar 0) (dCons (dVar 2) dNil))) [3]))
def yC : DS := dSet 9 (dCall den__law_among 2 [] (dCons (dVar 0) (dCons (dLst (dCons (dC .non) (dCons (dUn gNeg (dC (.int 1))) (dCons (dVar 2) (dCons (dC (.bl true)) (dCons (dC (.str "0")) (dCons (dTupK (dCons (dC (.int 0)) dNil)) (dCons (dLst (dCons (dC (.int 0)) dNil)) (dCons (dDic0 false) (dCons (dOp gPow (dC (.int 10)) (dC (.int 29))) dNil)))))))))) dNil)))
def yDl : DE := dLam den__law_said (dCall den_run_text 2 [] (dCons (dVar 1) (dCons (dOp gAdd (dVar 8) (dTupK (dCons (dVar 9) (dCons (dC (.int 0)) dNil)))) dNil)))
def yD : DS := dIfS (dB (dOp gNe (dUn gRepr yDl) (dUn gRepr (dTupK (dCons (dC (.str "run")) (dCons (dTupK (dCons (dUn gLen (dVar 8)) dNil)) dNil)))))) (dRet (dC (.bl false))) dNext
def yE : DS := dSet 7 (dCall den__law_among 2 [] (dCons (dVar 0) (dCons (dLst (dCons (dC .non) (dCons (dC (.int 5)) (dCons (dC (.str "0")) (dCons (dLst (dCons (dC (.int 0)) dNil)) (dCons (dDic0 false) (dCons (dOp gMulB (dTupK (dCons (dC (.int 0)) dNil)) (dC (.int 1001))) (dCons (dC (.bl true)) dNil)))))))) dNil)))
def yFl : DE := dLam den__law_said (dCall den_run_text 2 [] (dCons (dVar 1) (dCons (dVar 7) dNil)))
def yFt : DE := dUn gLen (dCall den_run_text 2 [] (dCons (dVar 1) (dCons (dOp gMul (dTupK (dCons (dC (.int 0)) dNil)) (dC (.int 1000))) dNil)))
def yF : DS := dIfS (dOr (dB (dOp gNe yFl (dTupK (dCons (dC (.str "run")) (dCons (dTupK dNil) dNil))))) (dB (dOp gNe yFt (dC (.int 1999))))) (dRet (dC (.bl false))) dNext
def yG : DS := dSet 4 (dLc (dSeqI (dVar 8)) (.nm 3) dYes (dUn gStr (dVar 3)) [3])
def yHa : DS := dSet 5 (dLst (dCons (dC (.str "none")) (dCons (dC (.str "")) (dCons (dC (.str "x")) (dCons (dC (.str "00")) (dCons (dC (.str "01")) (dCons (dC (.str "-1")) (dCons (dC (.str "+1")) (dCons (dC (.str "0")) (dCons (dC (.str "9")) (dCons (dUn gStr (dVar 2)) (dCons (dC (.str "1_0")) (dCons (dC (.str "100000")) (dCons (dC (.str "0\n1")) (dCons (dC (.str "None")) dNil)))))))))))))))
def yHb : DS := dSet 6 (dCall den__law_next 2 [] (dCons (dVar 0) (dCons (dOp gAdd (dUn gLen (dVar 4)) (dC (.int 1))) dNil)))
def yHc : DS := dSet 4 (dOp gAdd (dOp gAdd (dSl (dVar 4) dNoPart (dPart (dVar 6))) (dLst (dCons (dCall den__law_among 2 [] (dCons (dVar 0) (dCons (dVar 5) dNil))) dNil))) (dSl (dVar 4) (dPart (dVar 6)) dNoPart))
def yHd : DS := dSet 10 (dMS gJoin (dC (.str " ")) (dVar 4))
def yHl : DE := dLam den__law_said (dCall den_read_run 2 [] (dCons (dVar 1) (dCons (dVar 10) dNil)))
def yHe : DS := dIfS (dB (dOp gNe (dUn gRepr yHl) (dUn gRepr (dCall den__law_run_due 2 [] (dCons (dVar 1) (dCons (dVar 10) dNil)))))) (dRet (dC (.bl false))) dNext
def yHs : DS := dSeq yHa (dSeq yHb (dSeq yHc (dSeq yHd yHe)))
def yH : DS := dFor (dRng1 (dOp gAdd (dC (.int 1)) (dCall den__law_next 2 [] (dCons (dVar 0) (dCons (dC (.int 3)) dNil))))) (.nm 3) yHs
theorem y_eq : body__law_runs_right = dSeq yA (dSeq yB (dSeq yC (dSeq yD (dSeq yE (dSeq yF (dSeq yG (dSeq yH (dRet (dC (.bl true)))))))))) := rfl
abbrev RR (r : Rg) (x2 x3 x4 x5 x6 x7 x8 x9 x10 : Option Sv) (g : Gst) : Sd := ⟨[some (.v .dr), some (.v (rgD r)), x2, x3, x4, x5, x6, x7, x8, x9, x10], g⟩
theorem gdL_app : ∀ {a b : List D}, gdL (a ++ b) = (gdL a && gdL b)
  | [], b => by show gdL b = (true && gdL b); rw [Bool.true_and]
  | d :: a, b => by
    show (gd d && gdL (a ++ b)) = ((gd d && gdL a) && gdL b)
    rw [gdL_app, Bool.and_assoc]
theorem firstOut_app {n : Int} {d : D} {l : List D} (hd : whD d 0 (n - 1) = false) : ∀ (is : List Int) (k : Nat), (∀ i ∈ is, 0 ≤ i ∧ i < n) → firstOut n k (is.map D.int ++ d :: l) = some (k + is.length)
  | [], k, _ => by
    show firstOut n k (d :: l) = some (k + 0)
    unfold firstOut
    rw [hd]
    rfl
  | i :: is, k, h => by
    have hi := h i (List.mem_cons_self ..)
    rw [List.map_cons, List.cons_append]
    unfold firstOut
    have : whD (.int i) 0 (n - 1) = true := by
      simp only [whD, Bool.and_eq_true, decide_eq_true_eq]
      omega
    rw [this]
    show firstOut n (k + 1) (is.map D.int ++ d :: l) = _
    rw [firstOut_app hd is (k + 1) fun j hj => h j (List.mem_cons_of_mem _ hj), List.length_cons]
    congr 1
    omega
theorem tail_noughts : ∀ n : Nat, (tailL 32 (List.replicate n [48])).length = 2 * n
  | 0 => rfl
  | n + 1 => by
    rw [List.replicate_succ]
    show (32 :: ([48] ++ tailL 32 (List.replicate n [48]))).length = _
    rw [List.length_cons, List.length_append, tail_noughts n]
    show 1 + 2 * n + 1 = _
    omega
theorem runTx_noughts : (runTx ((List.replicate 1000 (0 : Int)).map D.int)).length = 1999 := by
  have e1 : runTx ((List.replicate 1000 (0 : Int)).map D.int) = Txt.join sp (List.replicate 1000 (nI 0)) := by
    rw [runTx_join]
    have : runWs (List.replicate 1000 (0 : Int)) = (List.replicate 1000 (0 : Int)).map nI := rfl
    rw [this, List.map_replicate]
  have e4 : (nI 0).cps.toList = [48] := TL.numL_lt (n := 0) (by decide)
  rw [e1, len_list, join_list, List.map_replicate, e4]
  show ([48] ++ tailL 32 (List.replicate 999 [48])).length = 1999
  rw [List.length_append, tail_noughts]
  rfl
theorem ne_rep2 {te1 te2 : DE} {r1 r2 : Rv} {d : D} {s : Sd} {Dx : Dn} (h1 : ∀ {Q : DK} {E : DX}, Q r1 s → te1 s Q E) (v1 : view s r1 = some d) (h2 : ∀ {Q : DK} {E : DX}, Q r2 s → te2 s Q E) (v2 : view s r2 = some d) (hg : gd d = true) (hs : szD d ≤ 1000) (hd : dpD d ≤ 10) (q : Dx.nx s) :
    dIfS (dB (dOp gNe (dUn gRepr te1) (dUn gRepr te2))) (dRet (dC (.bl false))) dNext Dx s := by
  refine dif_bs false (s' := s) (fun {Q2 E2} q2 => ?_) q
  have er : gRepr d = some (.v (.str (shD d))) := gRepr_ok hg (by omega) (by omega)
  have en : gNe (.str (shD d)) (.str (shD d)) = rB false := by rw [gNe_sh hg hg, beq_self_eq_true]; rfl
  unfold dB dOp
  unfold dUn
  refine h1 ?_
  simp only [view, bindO] at v1 v2 ⊢
  rw [v1]
  simp only [er]
  refine h2 ?_
  rw [v2]
  simp only [er, en, rB]
  exact q2
/-! #### what is odd -/
def oddsR (n : Int) : List D := [.non, .int (-1), .int n, .bl true, .str "0", .lds [.int 0], .lst [.int 0], .dic false [] [], .int (10 ^ 29)]
theorem oddsR_ok {n : Int} (h0 : 1 ≤ n) (h1 : n ≤ 10) : ∀ d ∈ oddsR n, gd d = true ∧ whD d 0 (n - 1) = false := by
  have a : gd (.str "0") = true := by decide +kernel
  have b : gd (.int (10 ^ 29)) = true := by decide +kernel
  have w : ∀ i : Int, (i < 0 ∨ n ≤ i) → whD (.int i) 0 (n - 1) = false := fun i h => by
    show (decide (0 ≤ i) && decide (i ≤ n - 1)) = false
    rcases h with h | h
    · rw [decide_eq_false (show ¬ 0 ≤ i by omega), Bool.false_and]
    · rw [decide_eq_false (show ¬ i ≤ n - 1 by omega), Bool.and_false]
  intro d hd
  unfold oddsR at hd
  simp only [List.mem_cons, List.not_mem_nil, or_false] at hd
  rcases hd with rfl | rfl | rfl | rfl | rfl | rfl | rfl | rfl | rfl
  · exact ⟨rfl, rfl⟩
  · exact ⟨gd_int (by omega) (by omega), w _ (.inl (by omega))⟩
  · exact ⟨gd_int (by omega) (by omega), w _ (.inr (by omega))⟩
  · exact ⟨rfl, rfl⟩
  · exact ⟨a, rfl⟩
  · exact ⟨by decide +kernel, rfl⟩
  · exact ⟨by decide +kernel, rfl⟩
  · exact ⟨rfl, rfl⟩
  · exact ⟨b, w _ (.inr (by omega))⟩
def badsR : List D := [.non, .int 5, .str "0", .lst [.int 0], .dic false [] [], .lds (repD 1001 [.int 0]), .bl true]
theorem rep_map (n : Nat) (i : Int) : repD n [.int i] = (List.replicate n i).map D.int := by
  unfold repD
  induction n with
  | zero => rfl
  | succ n ih => rw [List.replicate_succ, List.flatten_cons, ih, List.replicate_succ, List.map_cons]; rfl
theorem badsR_ok {n : Int} : ∀ d ∈ badsR, gd d = true ∧ runT n d = .inl (.lds []) := by
  have a : gd (.str "0") = true := by decide +kernel
  intro d hd
  unfold badsR at hd
  simp only [List.mem_cons, List.not_mem_nil, or_false] at hd
  rcases hd with rfl | rfl | rfl | rfl | rfl | rfl | rfl
  · exact ⟨rfl, rfl⟩
  · exact ⟨by decide +kernel, rfl⟩
  · exact ⟨a, rfl⟩
  · exact ⟨by decide +kernel, rfl⟩
  · exact ⟨rfl, rfl⟩
  · rw [rep_map]
    refine ⟨gd_ints fun i hi => by rw [List.eq_of_mem_replicate hi]; omega, ?_⟩
    unfold runT
    simp only [tupl, List.length_map, List.length_replicate]
    rfl
  · exact ⟨rfl, rfl⟩

end Sag
namespace Sag
open PySem PySem.Spec PyProof.Rows L2 DL
theorem lam_now {FL : Clo → Den → Den} {tb : DE} {s : Sd} {Q : DK} {E : DX} (h : ∀ J : Clo, J.ds = cloD s.e → FL J (denL tb s.e) [J.d] s.g (fun r g' => Q r ⟨s.e, g'⟩) (fun x g' => E x ⟨s.e, g'⟩)) : dLam FL tb s Q E := h
theorem among_ok {l : List D} {g : Gst} {Q : Rv → Gst → Prop} {E : Xd → Gst → Prop} (h0 : 0 < l.length) (h1 : l.length < 1000000) (q : ∀ x ∈ l, Q (.v x) g) : den__law_among [.dr, .lst l] g Q E := by
  simp only [den__law_among, body__law_among, dFn, dSeq, dIfS, dOr, dAnd, dNot, dB, dIsT, dVar, startD, nthO, setN, Sd.put, List.map_cons, List.map_nil, List.cons_append, List.nil_append, List.length_cons, List.length_nil, List.replicate, view, DL.settle, bindO, gIsInt, gIsBool, gIsTup, gIsStr, gIsLst, dRet, dRetN, dC, outR, dNext, dOp, dUn, gIsN, gNotN, gGe, gLe, gGt, gLt, gI, dAndV, dOrV, dNotV, rB, rI', isNonD, dCall, dCons, dNil, guardB, dSet, dStore, dTup, dTupK, dLst, fewL, dIf, dChain, dDrop, Bool.not_true, Bool.not_false, List.append_nil, Nat.reduceAdd, Nat.reduceSub, Nat.reduceBEq, beq_self_eq_true, dPar, dUA, unAl, DL.storeAll, dUnp, patStore, DL.putAll, Sd.wipe, wipeE, putO, clrN, gNe_ii, gEq_ii, gNe_l0, gEq_l0, gNe_t0, gEq_t0, gLen_t, gLen_l, gIx_t, gIx_l, atI_0, atI_1, atI_2, atI_3, atI_4, Option.map_some]
  refine next_ok (by omega) (by omega) fun i i0 i1 => ?_
  obtain ⟨x, hx, ex⟩ := atI_mem (l := l) i0 (by omega)
  simp only [ex, dFn, dSeq, dIfS, dOr, dAnd, dNot, dB, dIsT, dVar, startD, nthO, setN, Sd.put, List.map_cons, List.map_nil, List.cons_append, List.nil_append, List.length_cons, List.length_nil, List.replicate, view, DL.settle, bindO, gIsInt, gIsBool, gIsTup, gIsStr, gIsLst, dRet, dRetN, dC, outR, dNext, dOp, dUn, gIsN, gNotN, gGe, gLe, gGt, gLt, gI, dAndV, dOrV, dNotV, rB, rI', isNonD, dCall, dCons, dNil, guardB, dSet, dStore, dTup, dTupK, dLst, fewL, dIf, dChain, dDrop, Bool.not_true, Bool.not_false, List.append_nil, Nat.reduceAdd, Nat.reduceSub, Nat.reduceBEq, beq_self_eq_true, dPar, dUA, unAl, DL.storeAll, dUnp, patStore, DL.putAll, Sd.wipe, wipeE, putO, clrN, gNe_ii, gEq_ii, gNe_l0, gEq_l0, gNe_t0, gEq_t0, gLen_t, gLen_l, gIx_t, gIx_l, atI_0, atI_1, atI_2, atI_3, atI_4, Option.map_some]
  exact q x hx
theorem gAdd_tt {l m : List D} (h : l.length + m.length ≤ 16777216) : gAdd (.lds l) (.lds m) = some (.v (.lds (l ++ m))) := by
  show ifB (fitN (l.length + m.length)) _ = _
  rw [show fitN (l.length + m.length) = true from decide_eq_true h]
  rfl
theorem gAdd_ll {l m : List D} (h : l.length + m.length ≤ 16777216) : gAdd (.lst l) (.lst m) = some (.ol (l ++ m)) := by
  show ifB (fitN (l.length + m.length)) _ = _
  rw [show fitN (l.length + m.length) = true from decide_eq_true h]
  rfl
theorem gMul_lds {l : List D} {k : Nat} {i : Int} (hi : i = (k : Nat)) (h1 : 1 ≤ k) (h2 : k ≤ 1000) (h3 : l.length ≤ 1000) : gMul (.lds l) (.int i) = some (.v (.lds (repD k l))) := by
  subst hi
  show ifB (decide ((1 : Int) ≤ (k : Nat)) && decide (((k : Nat) : Int) ≤ 1000) && decide (l.length ≤ 1000)) (some (Rv.v (.lds (repD ((k : Nat) : Int).toNat l)))) = _
  rw [decide_eq_true (show (1 : Int) ≤ (k : Nat) by omega), decide_eq_true (show ((k : Nat) : Int) ≤ 1000 by omega), decide_eq_true h3, Int.toNat_natCast]
  rfl
theorem ints_of {n : Int} : ∀ rs : List D, (∀ r ∈ rs, ∃ i : Int, 0 ≤ i ∧ i < n ∧ r = .int i) → ∃ is : List Int, rs = is.map D.int ∧ ∀ i ∈ is, 0 ≤ i ∧ i < n
  | [], _ => ⟨[], rfl, by simp⟩
  | r :: rs, h => by
    obtain ⟨i, h0, h1, rfl⟩ := h r (List.mem_cons_self ..)
    obtain ⟨is, rfl, hi⟩ := ints_of rs fun x hx => h x (List.mem_cons_of_mem _ hx)
    exact ⟨i :: is, rfl, fun j hj => by
      rcases List.mem_cons.mp hj with rfl | hj
      · exact ⟨h0, h1⟩
      · exact hi j hj⟩
theorem runT_odd {n : Int} {is : List Int} {d : D} (hd : whD d 0 (n - 1) = false) (h : ∀ i ∈ is, 0 ≤ i ∧ i < n) (hl : is.length ≤ 4) : runT n (.lds (is.map D.int ++ [d, .int 0])) = .inl (.lds [.int (is.length : Nat)]) := by
  have e : decide ((1000 : Int) < ((is.map D.int ++ [d, .int 0]).length : Nat)) = false := decide_eq_false (by simp; omega)
  have f := firstOut_app (l := [.int 0]) hd is 0 h
  unfold runT
  simp only [tupl, e, f, Bool.false_eq_true, if_false, Nat.zero_add]
section
variable {g : Gst} {x2 x3 x4 x5 x6 x7 x8 x9 x10 : Option Sv} {Dx : Dn}
theorem yA_ok {r : Rg} (q : Dx.nx (RR r (some (.v (.int (r.moves.length : Nat)))) x3 x4 x5 x6 x7 x8 x9 x10 g)) : yA Dx (RR r x2 x3 x4 x5 x6 x7 x8 x9 x10 g) := by
  have hi1 : gIx (rgD r) (.int 1) = some (.v (.lds (r.moves.map mvD))) := rfl
  simp only [yA, dSet, dUn, dOp, dVar, nthO, dC, view, bindO, hi1, gLen_t, List.length_map]
  exact q
theorem yB_ok {r : Rg} (hr : RgN r) (q : ∀ is : List Int, (∀ i ∈ is, 0 ≤ i ∧ i < (r.moves.length : Int)) → is.length ≤ 4 → Dx.nx (RR r (some (.v (.int (r.moves.length : Nat)))) none x4 x5 x6 x7 (some (.v (.lds (is.map D.int)))) x9 x10 g)) : yB Dx (RR r (some (.v (.int (r.moves.length : Nat)))) none x4 x5 x6 x7 x8 x9 x10 g) := by
  have h1 := hr.some_
  have h10 := hr.ten
  unfold yB dSet dUn dLc dRng1
  refine call_gen [.dr, .int 5] (RR r (some (.v (.int (r.moves.length : Nat)))) none x4 x5 x6 x7 x8 x9 x10 g) (fun K E2 q2 => q2) rfl (next_ok (by decide) (by decide) fun k k0 k1 => ?_)
  have hg : (decide (-16777216 ≤ k) && decide (k ≤ 16777216)) = true := by
    rw [decide_eq_true (by omega), decide_eq_true (by omega)]; rfl
  simp only [view, bindO, DL.intD, hg, guardB]
  refine lc_rel (fun d => RR r (some (.v (.int (r.moves.length : Nat)))) (some (.v d)) x4 x5 x6 x7 x8 x9 x10 g) (fun x => ∃ i : Int, 0 ≤ i ∧ i < (r.moves.length : Int) ∧ x = .int i) _ (fun _ _ => rfl) (fun _ _ => rfl) (fun d hd Q1 E1 q1 => ?_) [] fun rs hl hrs => ?_
  · exact call_gen [.dr, .int (r.moves.length : Nat)] (RR r (some (.v (.int (r.moves.length : Nat)))) (some (.v d)) x4 x5 x6 x7 x8 x9 x10 g) (fun K E2 q2 => q2) rfl (next_ok (by omega) (by omega) fun i i0 i1 => q1 _ ⟨i, i0, i1, rfl⟩)
  · obtain ⟨is, rfl, hi⟩ := ints_of rs hrs
    rw [rangeD_len] at hl
    rw [List.length_map] at hl
    exact q is hi (by omega)
theorem yC_ok {r : Rg} (hr : RgN r) (q : ∀ d, gd d = true ∧ whD d 0 ((r.moves.length : Nat) - 1) = false → Dx.nx (RR r (some (.v (.int (r.moves.length : Nat)))) x3 x4 x5 x6 x7 x8 (some (.v d)) x10 g)) : yC Dx (RR r (some (.v (.int (r.moves.length : Nat)))) x3 x4 x5 x6 x7 x8 x9 x10 g) := by
  have h1 := hr.some_
  have h10 := hr.ten
  have hq := oddsR_ok (n := (r.moves.length : Nat)) (by omega) (by omega)
  have hlen : ∀ n, (oddsR n).length = 9 := fun n => rfl
  generalize ((r.moves.length : Nat) : Int) = n at *
  have hl := hlen n
  unfold yC dSet
  exact call_gen [.dr, .lst (oddsR n)] (RR r (some (.v (.int n))) x3 x4 x5 x6 x7 x8 x9 x10 g) (fun K E2 q2 => q2) rfl (among_ok (by omega) (by omega) fun d hd => q d (hq d hd))
theorem run_gd {k : Nat} (h : k ≤ 1000) : gd (.lds [.str "run", .lds [.int (k : Nat)]]) = true := by
  have a : gd (.str "run") = true := by decide +kernel
  show (gd (.str "run") && ((gd (.int (k : Nat)) && true) && true)) = true
  rw [a, gd_int (by omega) (by omega)]
  rfl
theorem yD_ok {r : Rg} {is : List Int} {d : D} (hr : RgN r) (hi : ∀ i ∈ is, 0 ≤ i ∧ i < (r.moves.length : Int)) (hl : is.length ≤ 4) (hd : gd d = true ∧ whD d 0 ((r.moves.length : Nat) - 1) = false) (q : Dx.nx (RR r x2 x3 x4 x5 x6 x7 (some (.v (.lds (is.map D.int)))) (some (.v d)) x10 g)) : yD Dx (RR r x2 x3 x4 x5 x6 x7 (some (.v (.lds (is.map D.int)))) (some (.v d)) x10 g) := by
  have h10 := hr.ten
  have hT := runT_odd hd.2 hi hl
  have hg : gd (.lds (is.map D.int ++ [d, .int 0])) = true := by
    show gdL (is.map D.int ++ [d, .int 0]) = true
    have g1 : gdL (is.map D.int) = true := gd_ints fun i h => by have := hi i h; omega
    rw [gdL_app, g1]
    show (true && (gd d && (gd (.int 0) && true))) = true
    rw [hd.1]; rfl
  have ha : gAdd (.lds (is.map D.int)) (.lds [d, .int 0]) = some (.v (.lds (is.map D.int ++ [d, .int 0]))) := gAdd_tt (by simp; omega)
  have hgl : gLen (.lds (is.map D.int)) = some (.v (.int (is.length : Nat))) := by rw [gLen_t, List.length_map]
  have hrun := fun (g : Gst) (Q : Rv → Gst → Prop) (E : Xd → Gst → Prop) (q : E ⟨3, .lds [.int (is.length : Nat)]⟩ g) => run_text_ok (g := g) (Q := Q) (E := E) (d := .lds (is.map D.int ++ [d, .int 0])) hr hg (by rw [hT]; exact q)
  generalize is.map D.int ++ [d, .int 0] = L at *
  generalize is.map D.int = M at *
  unfold yD
  refine ne_rep2 (r1 := .v (.lds [.str "run", .lds [.int (is.length : Nat)]])) (r2 := .v (.lds [.str "run", .lds [.int (is.length : Nat)]])) (d := .lds [.str "run", .lds [.int (is.length : Nat)]]) (fun {Q E} q => ?_) rfl (fun {Q E} q => ?_) rfl (run_gd (by omega)) (by simp [szD, szL]) (by simp [dpD, dpL]) q
  · unfold yDl
    refine lam_now fun J _ => said_run (p := .lds [.int (is.length : Nat)]) (fun {Q E} q => ?_) q
    unfold denL
    refine call_gen [rgD r, .lds L] ⟨keepE [some (.v .dr), some (.v (rgD r)), x2, x3, x4, x5, x6, x7, some (.v (.lds M)), some (.v d), x10], g⟩ (fun K E2 q2 => ?_) rfl (hrun _ _ _ q)
    simp only [dCons, dNil, dC, dVar, keepE, keepV, List.map, nthO, DL.settle, bindO, dTupK, dOp, view, fewL, guardB, List.length_cons, List.length_nil, ha]
    exact q2
  · simp only [dTupK, dCons, dNil, dC, dUn, dVar, nthO, view, bindO, hgl, DL.settle, fewL, guardB, List.length_cons, List.length_nil]
    exact q
theorem yE_ok {r : Rg} (q : ∀ d, gd d = true ∧ runT (r.moves.length : Nat) d = .inl (.lds []) → Dx.nx (RR r x2 x3 x4 x5 x6 (some (.v d)) x8 x9 x10 g)) : yE Dx (RR r x2 x3 x4 x5 x6 x7 x8 x9 x10 g) := by
  have hq := badsR_ok (n := (r.moves.length : Nat))
  have hm : gMulB (.lds [.int 0]) (.int 1001) = some (.v (.lds (repD 1001 [.int 0]))) := rfl
  have hb : badsR = [.non, .int 5, .str "0", .lst [.int 0], .dic false [] [], .lds (repD 1001 [.int 0]), .bl true] := rfl
  have hl : badsR.length = 7 := rfl
  unfold yE dSet
  refine call_gen [.dr, .lst badsR] (RR r x2 x3 x4 x5 x6 x7 x8 x9 x10 g) (fun K E2 q2 => ?_) rfl (among_ok (by omega) (by omega) fun d hd => q d (hq d hd))
  rw [hb] at q2
  generalize repD 1001 [.int 0] = L at *
  simp only [dCons, dNil, dC, dVar, nthO, DL.settle, bindO, dLst, dTupK, dOp, dDic0, view, fewL, guardB, List.length_cons, List.length_nil, hm]
  exact q2
theorem yFt_ok {r : Rg} {s : Sd} {Q : DK} {E : DX} (hr : RgN r) (hs : nthO s.e 1 = some (.v (rgD r))) (q : Q (.v (.int 1999)) s) : yFt s Q E := by
  have h1 := hr.some_
  have hw : ∃ t : Str, t.length = 1999 ∧ ∀ (g : Gst) (Q : Rv → Gst → Prop) (E : Xd → Gst → Prop), Q (.v (.str t)) g → den_run_text [rgD r, .lds (repD 1000 [.int 0])] g Q E := ⟨_, runTx_noughts, fun g Q E q => by
    rw [rep_map]
    exact write_run hr (fun i h => by rw [List.eq_of_mem_replicate h]; omega) (by simp) q⟩
  obtain ⟨t, ht, hw⟩ := hw
  have hm : gMul (.lds [.int 0]) (.int 1000) = some (.v (.lds (repD 1000 [.int 0]))) := gMul_lds (k := 1000) rfl (by decide) (by decide) (by decide)
  have hl : gLen (.str t) = some (.v (.int 1999)) := by
    rw [gLen_str (by omega), ht]; rfl
  generalize repD 1000 [.int 0] = L at *
  unfold yFt dUn
  refine call_gen [rgD r, .lds L] s (fun K E2 q2 => ?_) rfl (hw _ _ _ ?_)
  · unfold dCons
    refine dvar_v hs ?_
    simp only [dCons, dNil, dC, DL.settle, bindO, dTupK, dOp, view, fewL, guardB, List.length_cons, List.length_nil, hm]
    exact q2
  · simp only [view, bindO, hl]
    exact q
theorem yF_ok {r : Rg} {d : D} (hr : RgN r) (hd : gd d = true ∧ runT (r.moves.length : Nat) d = .inl (.lds [])) (q : Dx.nx (RR r x2 x3 x4 x5 x6 (some (.v d)) x8 x9 x10 g)) : yF Dx (RR r x2 x3 x4 x5 x6 (some (.v d)) x8 x9 x10 g) := by
  have hok : okE 64 (.lds [.str "run", .lds []]) = true := by decide +kernel
  have e9 : gNe (.int 1999) (.int 1999) = rB false := gNe_refl rfl
  have hrun := fun (g : Gst) (Q : Rv → Gst → Prop) (E : Xd → Gst → Prop) (q : E ⟨3, .lds []⟩ g) => run_text_ok (g := g) (Q := Q) (E := E) hr hd.1 (by rw [hd.2]; exact q)
  unfold yF
  refine dif_bs false (s' := RR r x2 x3 x4 x5 x6 (some (.v d)) x8 x9 x10 g) (fun {Q2 E2} q2 => ?_) q
  unfold dOr
  refine dB_bl (b := false) (s' := RR r x2 x3 x4 x5 x6 (some (.v d)) x8 x9 x10 g) (fun {Q1 E1} q1 => ?_) ?_
  · refine dOp_l (d1 := .lds [.str "run", .lds []]) (d2 := .lds [.str "run", .lds []]) (fun {Q E} q => ?_) (fun {Q E} q => q) (gNe_refl hok) q1
    unfold yFl
    refine lam_now fun J _ => said_run (p := .lds []) (fun {Q E} q => ?_) q
    unfold denL
    exact call_gen [rgD r, d] ⟨keepE [some (.v .dr), some (.v (rgD r)), x2, x3, x4, x5, x6, some (.v d), x8, x9, x10], g⟩ (fun K E2 q2 => q2) rfl (hrun _ _ _ q)
  · refine dB_bl (b := false) (s' := RR r x2 x3 x4 x5 x6 (some (.v d)) x8 x9 x10 g) (fun {Q1 E1} q1 => ?_) q2
    exact dOp_l (d1 := .int 1999) (d2 := .int 1999) (fun {Q E} q => yFt_ok hr rfl q) (fun {Q E} q => q) e9 q1
theorem yG_ok {r : Rg} {is : List Int} (hr : RgN r) (hi : ∀ i ∈ is, 0 ≤ i ∧ i < (r.moves.length : Int)) (q : Dx.nx (RR r x2 none (some (.ol ((is.map nI).map D.str))) x5 x6 x7 (some (.v (.lds (is.map D.int)))) x9 x10 g)) : yG Dx (RR r x2 none x4 x5 x6 x7 (some (.v (.lds (is.map D.int)))) x9 x10 g) := by
  have h10 := hr.ten
  unfold yG dSet dLc dSeqI
  refine dvar_v rfl ?_
  simp only [view, bindO, DL.settle, seqOf]
  refine lc_strs (ns := is) (s0 := RR r x2 none x4 x5 x6 x7 (some (.v (.lds (is.map D.int)))) x9 x10 g) (fun i h => by have := hi i h; omega) (fun _ => rfl) (fun _ => rfl) ?_
  exact q
end

end Sag
namespace Sag
open PySem PySem.Spec PyProof.Rows L2 DL
/-! ### the words of a run, spoilt -/
theorem tailL_le {c B : Nat} : ∀ {xs : List (List Nat)}, (∀ x ∈ xs, x.length ≤ B) → (tailL c xs).length ≤ (B + 1) * xs.length
  | [], _ => Nat.zero_le _
  | y :: r, h => by
    have ih := tailL_le (c := c) (xs := r) fun x hx => h x (List.mem_cons_of_mem _ hx)
    have hy := h y (List.mem_cons_self ..)
    show (c :: (y ++ tailL c r)).length ≤ _
    rw [List.length_cons, List.length_append, List.length_cons, Nat.mul_succ]
    omega
theorem join_le {c B : Nat} {ys : List Str} (h : ∀ y ∈ ys, y.length ≤ B) : (Txt.join ⟨#[c]⟩ ys).length ≤ (B + 1) * ys.length := by
  rw [len_list, join_list]
  cases ys with
  | nil => exact Nat.zero_le _
  | cons y r =>
    have h1 := tailL_le (c := c) (B := B) (xs := r.map fun y => y.cps.toList) fun x hx => by
      obtain ⟨z, hz, rfl⟩ := List.mem_map.mp hx
      have := h z (List.mem_cons_of_mem _ hz)
      rw [len_list] at this
      exact this
    have hy := h y (List.mem_cons_self ..)
    rw [len_list] at hy
    rw [List.length_map] at h1
    show (y.cps.toList ++ tailL c (r.map fun y => y.cps.toList)).length ≤ _
    rw [List.length_append, List.length_cons, Nat.mul_succ]
    omega
/-- short words -/
def SW (ws : List Str) : Prop := ∀ y ∈ ws, PS y ∧ y.length ≤ 10
theorem cut_map {α β : Type} (f : α → β) (xs : List α) (lo hi : Option Int) : DL.cutD (xs.map f) lo hi = (DL.cutD xs lo hi).map f := by
  unfold DL.cutD
  rw [List.length_map, List.map_take, List.map_drop]
theorem cut_sub {α : Type} {xs : List α} {lo hi : Option Int} : (DL.cutD xs lo hi).length ≤ xs.length ∧ ∀ x ∈ DL.cutD xs lo hi, x ∈ xs := by
  unfold DL.cutD
  refine ⟨?_, fun x hx => List.mem_of_mem_drop (List.mem_of_mem_take hx)⟩
  rw [List.length_take, List.length_drop]
  omega
def wdsR (n : Int) : List D := [.str "none", .str "", .str "x", .str "00", .str "01", .str "-1", .str "+1", .str "0", .str "9", .str (nI n), .str "1_0", .str "100000", .str "0\n1", .str "None"]
theorem nI_short {n : Int} (h0 : 0 ≤ n) (h1 : n ≤ 10) : (nI n).length ≤ 10 := by
  have h : ∀ k : Nat, k ≤ 10 → (nI (k : Int)).length ≤ 10 := by decide +kernel
  have := h n.toNat (by omega)
  rw [Int.toNat_of_nonneg h0] at this
  exact this
def okW (y : Str) : Bool := y.cps.toList.all (fun c => decide (c < 256)) && decide (y.length ≤ 10)
theorem okW_ok {y : Str} (h : okW y = true) : PS y ∧ y.length ≤ 10 := by
  unfold okW at h
  simp only [Bool.and_eq_true, decide_eq_true_eq, List.all_eq_true] at h
  exact h
theorem wdsR_ok {n : Int} (h0 : 0 ≤ n) (h1 : n ≤ 10) : ∀ d ∈ wdsR n, ∃ y, d = .str y ∧ PS y ∧ y.length ≤ 10 := by
  intro d hd
  unfold wdsR at hd
  simp only [List.mem_cons, List.not_mem_nil, or_false] at hd
  rcases hd with h | h | h | h | h | h | h | h | h | h | h | h | h | h
  all_goals first
    | exact ⟨nI n, h, nI_ps n, nI_short h0 h1⟩
    | exact ⟨_, h, okW_ok (by decide +kernel)⟩
theorem rdWords_inl {n : Int} : ∀ {ws : List Str} {k k' : Nat} {acc : List Int}, rdWords numIn n k ws acc = .inl k' → k' ≤ k + ws.length
  | [], k, k', acc, h => by unfold rdWords at h; cases h
  | y :: ws, k, k', acc, h => by
    unfold rdWords at h
    cases hf : numIn y with
    | none => rw [hf] at h; cases h; omega
    | some i =>
      rw [hf] at h
      simp only at h
      split at h
      · have := rdWords_inl h
        rw [List.length_cons]
        omega
      · cases h; omega
def duD (R : D ⊕ List Int) : D := match R with
  | .inl p => .lds [.str "text", p]
  | .inr is => .lst [.lds (is.map D.int)]
theorem due_view {R : D ⊕ List Int} {s : Sd} : view s (dueR R) = some (duD R) := by
  cases R <;> rfl
def Small (R : D ⊕ List Int) : Prop := match R with
  | .inl p => ∃ a b : Int, p = .lds [.int a, .int b] ∧ 0 ≤ a ∧ a ≤ 1000 ∧ 0 ≤ b ∧ b ≤ 1000
  | .inr is => is.length ≤ 900 ∧ ∀ i ∈ is, 0 ≤ i ∧ i < 100000
theorem small_gd {R : D ⊕ List Int} (h : Small R) : gd (duD R) = true ∧ szD (duD R) ≤ 1000 ∧ dpD (duD R) ≤ 10 := by
  cases R with
  | inl p =>
    obtain ⟨a, b, rfl, a0, a1, b0, b1⟩ := h
    have e : gd (.str "text") = true := by decide +kernel
    refine ⟨?_, by simp [duD, szD, szL], by simp [duD, dpD, dpL]⟩
    show (gd (.str "text") && ((gd (.int a) && (gd (.int b) && true)) && true)) = true
    rw [e, gd_int (by omega) (by omega), gd_int (by omega) (by omega)]
    rfl
  | inr is =>
    obtain ⟨h1, h2⟩ := h
    have g1 : gdL (is.map D.int) = true := gdL_map fun i hi => gd_int (by have := h2 i hi; omega) (by have := h2 i hi; omega)
    have s1 : szL (is.map D.int) ≤ 1 * is.length := szL_map fun i _ => by simp [szD]
    have d1 : dpL (is.map D.int) ≤ 0 := dpL_map fun i _ => by simp [dpD]
    refine ⟨?_, ?_, ?_⟩
    · show (gdL (is.map D.int) && true) = true
      rw [g1]; rfl
    · show 1 + ((1 + szL (is.map D.int)) + 0) ≤ 1000
      omega
    · show 1 + max (1 + dpL (is.map D.int)) 0 ≤ 10
      omega
theorem rdLine_small {n : Int} {ws : List Str} (h : ws.length ≤ 900) : Small (rdLine numIn n ws) := by
  unfold rdLine
  split
  · split
    · exact ⟨0, 1, rfl, by omega, by omega, by omega, by omega⟩
    · exact ⟨by simp, by simp⟩
  · cases hR : rdWords numIn n 0 ws [] with
    | inl k =>
      have := rdWords_inl hR
      exact ⟨0, (k : Nat), rfl, by omega, by omega, by omega, by omega⟩
    | inr is =>
      obtain ⟨js, e1, e2, e3⟩ := rdWords_inr hR
      rw [List.nil_append] at e1
      subst e1
      have : ws.length = is.length := by rw [e2, List.length_map]
      exact ⟨by omega, fun i hi => e3 i hi⟩
theorem rdRun_small {n : Int} {t : Str} (hl : t.length ≤ 800) : Small (rdRun numIn n (lnsOf t)) := by
  have hw : ((lnsOf t).headD []).length ≤ 900 := by
    obtain ⟨y, hy, e⟩ := List.mem_map.mp (lns_hd (t := t))
    rw [← e]
    have h1 : (Txt.split y sp).length ≤ y.length + 1 := parts_len y 32
    have h2 : y.length ≤ t.length := by
      have hm : y.cps.toList ∈ (Txt.split t nl).map fun y => y.cps.toList := List.mem_map_of_mem hy
      have := (joinL_len (c := 10)).2 _ hm
      rw [show joinL 10 ((Txt.split t nl).map fun y => y.cps.toList) = t.cps.toList from split_cps t 10, ← len_list, ← len_list] at this
      exact this
    omega
  have h := rdLine_small (n := n) hw
  unfold rdRun
  cases hR : rdLine numIn n ((lnsOf t).headD []) with
  | inl p => rw [hR] at h; exact h
  | inr is =>
    rw [hR] at h
    simp only
    split
    · exact ⟨1, 0, rfl, by omega, by omega, by omega, by omega⟩
    · exact h
section
variable {g : Gst} {x2 x3 x4 x5 x6 x7 x8 x9 x10 : Option Sv} {Dx : Dn}
theorem yHa_ok {r : Rg} (hr : RgN r) (q : Dx.nx (RR r (some (.v (.int (r.moves.length : Nat)))) x3 x4 (some (.ol (wdsR (r.moves.length : Nat)))) x6 x7 x8 x9 x10 g)) : yHa Dx (RR r (some (.v (.int (r.moves.length : Nat)))) x3 x4 x5 x6 x7 x8 x9 x10 g) := by
  have h10 := hr.ten
  have hs : gStr (.int (r.moves.length : Nat)) = some (.v (.str (nI (r.moves.length : Nat)))) := gStr_int (by omega) (by omega)
  generalize ((r.moves.length : Nat) : Int) = n at *
  unfold wdsR at q
  simp only [yHa, dSet, dLst, dCons, dNil, dC, dUn, dVar, nthO, view, bindO, hs, DL.settle, fewL, guardB, List.length_cons, List.length_nil]
  exact q
theorem yHb_ok {r : Rg} {ws : List Str} (hl : ws.length ≤ 1000) (q : ∀ i, Dx.nx (RR r x2 x3 (some (.ol (ws.map D.str))) x5 (some (.v (.int i))) x7 x8 x9 x10 g)) : yHb Dx (RR r x2 x3 (some (.ol (ws.map D.str))) x5 x6 x7 x8 x9 x10 g) := by
  have hg : gLen (.lst (ws.map D.str)) = some (.v (.int (ws.length : Nat))) := by rw [gLen_l, List.length_map]
  unfold yHb dSet
  refine call_gen [.dr, .int ((ws.length : Nat) + 1)] (RR r x2 x3 (some (.ol (ws.map D.str))) x5 x6 x7 x8 x9 x10 g) (fun K E2 q2 => ?_) rfl (next_ok (by omega) (by omega) fun i _ _ => q i)
  have ha : gAdd (.int (ws.length : Nat)) (.int 1) = some (.v (.int ((ws.length : Nat) + 1))) := rfl
  simp only [dCons, dNil, dC, dUn, dOp, dVar, nthO, view, bindO, hg, ha, DL.settle]
  exact q2
theorem yHc_ok {r : Rg} {ws : List Str} {i : Int} (hr : RgN r) (hw : SW ws) (hl : ws.length ≤ 100) (q : ∀ ws' x5, SW ws' → ws'.length ≤ 2 * ws.length + 1 → Dx.nx (RR r x2 x3 (some (.ol (ws'.map D.str))) x5 (some (.v (.int i))) x7 x8 x9 x10 g)) :
    yHc Dx (RR r x2 x3 (some (.ol (ws.map D.str))) (some (.ol (wdsR (r.moves.length : Nat)))) (some (.v (.int i))) x7 x8 x9 x10 g) := by
  have h10 := hr.ten
  have hq := wdsR_ok (n := (r.moves.length : Nat)) (by omega) (by omega)
  have hln : (wdsR (r.moves.length : Nat)).length = 14 := rfl
  generalize wdsR (r.moves.length : Nat) = W at *
  obtain ⟨l1, m1⟩ := cut_sub (xs := ws) (lo := none) (hi := some i)
  obtain ⟨l2, m2⟩ := cut_sub (xs := ws) (lo := some i) (hi := none)
  have c1 : gSl (.lst (ws.map D.str)) none (some i) = some (.ol ((DL.cutD ws none (some i)).map D.str)) := by
    show some (Rv.ol (DL.cutD (ws.map D.str) none (some i))) = _
    rw [cut_map]
  have c2 : gSl (.lst (ws.map D.str)) (some i) none = some (.ol ((DL.cutD ws (some i) none).map D.str)) := by
    show some (Rv.ol (DL.cutD (ws.map D.str) (some i) none)) = _
    rw [cut_map]
  generalize DL.cutD ws none (some i) = A at *
  generalize DL.cutD ws (some i) none = B at *
  unfold yHc dSet
  unfold dOp
  unfold dSl
  refine dvar_ol rfl ?_
  simp only [dNoPart, dPart]
  refine dvar_v rfl ?_
  simp only [view, nthO, bindO, c1]
  unfold dLst
  refine dcons_now ?_
  refine call_gen [.dr, .lst W] (RR r x2 x3 (some (.ol (ws.map D.str))) (some (.v (.lst W))) (some (.v (.int i))) x7 x8 x9 x10 g) (fun K E2 q2 => q2) rfl (among_ok (by omega) (by omega) fun d hd => ?_)
  obtain ⟨y, rfl, y1, y2⟩ := hq d hd
  have a1 : gAdd (.lst (A.map D.str)) (.lst [.str y]) = some (.ol ((A ++ [y]).map D.str)) := by
    rw [gAdd_ll (by simp; omega), List.map_append]; rfl
  have a2 : gAdd (.lst ((A ++ [y]).map D.str)) (.lst (B.map D.str)) = some (.ol ((A ++ [y] ++ B).map D.str)) := by
    rw [gAdd_ll (by simp; omega), List.map_append (l₂ := B)]
  simp only [DL.settle, bindO, dNil, fewL, guardB, List.length_cons, List.length_nil, view, a1]
  refine dvar_ol rfl ?_
  refine dvar_v rfl ?_
  simp only [view, nthO, bindO, c2, a2]
  refine q (A ++ [y] ++ B) _ (fun z hz => ?_) (by simp; omega)
  simp only [List.mem_append, List.mem_cons, List.not_mem_nil, or_false] at hz
  rcases hz with (hz | rfl) | hz
  · exact hw z (m1 z hz)
  · exact ⟨y1, y2⟩
  · exact hw z (m2 z hz)
theorem sw_text {ws : List Str} (hw : SW ws) (hl : ws.length ≤ 70) : PS (Txt.join sp ws) ∧ (Txt.join sp ws).length ≤ 800 := by
  refine ⟨fun c hc => ?_, ?_⟩
  · rcases join_mem hc with rfl | ⟨y, hy, h⟩
    · omega
    · exact (hw y hy).1 c h
  · have := join_le (c := 32) (B := 10) fun y hy => (hw y hy).2
    show (Txt.join ⟨#[32]⟩ ws).length ≤ 800
    omega
theorem yHd_ok {r : Rg} {ws : List Str} (hw : SW ws) (hl : ws.length ≤ 70) (q : Dx.nx (RR r x2 x3 (some (.ol (ws.map D.str))) x5 x6 x7 x8 x9 (some (.v (.str (Txt.join sp ws)))) g)) : yHd Dx (RR r x2 x3 (some (.ol (ws.map D.str))) x5 x6 x7 x8 x9 x10 g) := by
  unfold yHd dSet
  refine ms_join (c := 32) (B := 10) (ys := ws) (r := .al 4) (s' := RR r x2 x3 (some (.ol (ws.map D.str))) x5 x6 x7 x8 x9 x10 g) rfl (fun {Q E} q => dvar_ol rfl q) rfl (fun y hy => (hw y hy).2) (by omega) ?_
  exact q
theorem yHl_ok {r : Rg} {t : Str} {Q : DK} {E : DX} (hr : RgN r) (ht : PS t) (hl : t.length ≤ 1000) (q : Q (dueR (rdRun numIn (r.moves.length : Nat) (lnsOf t))) (RR r x2 x3 x4 x5 x6 x7 x8 x9 (some (.v (.str t))) g)) : yHl (RR r x2 x3 x4 x5 x6 x7 x8 x9 (some (.v (.str t))) g) Q E := by
  have hrd := fun (g : Gst) (Q : Rv → Gst → Prop) (E : Xd → Gst → Prop) => read_run_any (g := g) (Q := Q) (E := E) hr ht hl
  generalize rdRun numIn (r.moves.length : Nat) (lnsOf t) = R at *
  unfold yHl
  refine lam_now fun J _ => ?_
  cases R with
  | inl p =>
    refine said_text (p := p) (fun {Q E} q => ?_) q
    unfold denL
    exact call_gen [rgD r, .str t] ⟨keepE [some (.v .dr), some (.v (rgD r)), x2, x3, x4, x5, x6, x7, x8, x9, some (.v (.str t))], g⟩ (fun K E2 q2 => q2) rfl (hrd _ _ _ q)
  | inr is =>
    refine said_v (d := .lds (is.map D.int)) (fun {Q E} q => ?_) q
    unfold denL
    exact call_gen [rgD r, .str t] ⟨keepE [some (.v .dr), some (.v (rgD r)), x2, x3, x4, x5, x6, x7, x8, x9, some (.v (.str t))], g⟩ (fun K E2 q2 => q2) rfl (hrd _ _ _ q)
theorem yHe_ok {r : Rg} {t : Str} (hr : RgN r) (ht : PS t) (hl : t.length ≤ 800) (q : Dx.nx (RR r x2 x3 x4 x5 x6 x7 x8 x9 (some (.v (.str t))) g)) : yHe Dx (RR r x2 x3 x4 x5 x6 x7 x8 x9 (some (.v (.str t))) g) := by
  obtain ⟨h1, h2, h3⟩ := small_gd (rdRun_small (n := (r.moves.length : Nat)) hl)
  unfold yHe
  refine ne_rep2 (r1 := dueR (rdRun numIn (r.moves.length : Nat) (lnsOf t))) (r2 := dueR (rdRun numIn (r.moves.length : Nat) (lnsOf t))) (fun {Q E} q => yHl_ok hr ht (by omega) q) due_view (fun {Q E} q => ?_) due_view h1 h2 h3 q
  exact call_gen [rgD r, .str t] (RR r x2 x3 x4 x5 x6 x7 x8 x9 (some (.v (.str t))) g) (fun K E2 q2 => q2) rfl (run_due_ok hr ht (by omega) q)
theorem yHs_ok {r : Rg} {ws : List Str} (hr : RgN r) (hw : SW ws) (hl : ws.length ≤ 30) (q : ∀ ws' x5 x6 x10, SW ws' → ws'.length ≤ 2 * ws.length + 1 → Dx.nx (RR r (some (.v (.int (r.moves.length : Nat)))) x3 (some (.ol (ws'.map D.str))) x5 x6 x7 x8 x9 x10 g)) :
    yHs Dx (RR r (some (.v (.int (r.moves.length : Nat)))) x3 (some (.ol (ws.map D.str))) x5 x6 x7 x8 x9 x10 g) := by
  unfold yHs
  apply dSeq_now
  refine yHa_ok hr ?_
  apply dSeq_now
  refine yHb_ok (by omega) fun i => ?_
  apply dSeq_now
  refine yHc_ok hr hw (by omega) fun ws' y5 hw' hl' => ?_
  obtain ⟨t1, t2⟩ := sw_text hw' (by omega)
  apply dSeq_now
  refine yHd_ok hw' (by omega) ?_
  have q' := fun x10 => q ws' y5 (some (.v (.int i))) x10 hw' hl'
  generalize Txt.join sp ws' = t at *
  exact yHe_ok hr t1 t2 (q' _)
theorem yH_ok {r : Rg} {ws : List Str} (hr : RgN r) (hw : SW ws) (hl : ws.length ≤ 4) (q : ∀ s, s.g = g → Dx.nx s) : yH Dx (RR r (some (.v (.int (r.moves.length : Nat)))) x3 (some (.ol (ws.map D.str))) x5 x6 x7 x8 x9 x10 g) := by
  unfold yH dFor
  unfold dRng1
  unfold dOp
  unfold dC
  refine call_gen [.dr, .int 3] (RR r (some (.v (.int (r.moves.length : Nat)))) x3 (some (.ol (ws.map D.str))) x5 x6 x7 x8 x9 x10 g) (fun K E2 q2 => q2) rfl (next_ok (by decide) (by decide) fun k k0 k1 => ?_)
  have ha : gAdd (.int 1) (.int k) = some (.v (.int (1 + k))) := rfl
  have hg : (decide (-16777216 ≤ 1 + k) && decide (1 + k ≤ 16777216)) = true := by
    rw [decide_eq_true (by omega), decide_eq_true (by omega)]; rfl
  simp only [view, bindO, ha, DL.intD, hg, guardB]
  have h3 : (rangeD 0 (1 + k).toNat).length ≤ 3 := by rw [rangeD_len]; omega
  generalize rangeD 0 (1 + k).toNat = L at *
  refine for_gen (fun k s => ∃ ws x3 x5 x6 x10, SW ws ∧ ws.length + 1 ≤ 5 * 2 ^ k ∧ s = RR r (some (.v (.int (r.moves.length : Nat)))) x3 (some (.ol (ws.map D.str))) x5 x6 x7 x8 x9 x10 g) L 0 _ ⟨ws, x3, x5, x6, x10, hw, by omega, rfl⟩ (fun i d s N he hi hN => ?_) fun s hi => ?_
  · obtain ⟨ws, x3, x5, x6, x10, hw, hl, rfl⟩ := hi
    have hi : i < L.length := (List.getElem?_eq_some_iff.mp he).1
    rw [Nat.zero_add] at hl hN
    have hp : 2 ^ (i + 1) = 2 * 2 ^ i := by rw [Nat.pow_succ]; omega
    have hb : 2 ^ i ≤ 4 := by
      have : i = 0 ∨ i = 1 ∨ i = 2 := by omega
      rcases this with rfl | rfl | rfl <;> decide
    refine yHs_ok hr hw (by omega) fun ws' y5 y6 y10 hw' hl' => hN _ ⟨ws', _, y5, y6, y10, hw', by omega, rfl⟩
  · obtain ⟨ws, x3, x5, x6, x10, hw, hl, rfl⟩ := hi
    exact q _ rfl
/-- runs, and texts of runs, are told or refused -/
theorem runs_right_ok {r : Rg} {Q : Rv → Gst → Prop} {E : Xd → Gst → Prop} (hr : RgN r) (q : Q (.v (.bl true)) g) : den__law_runs_right [.dr, rgD r] g Q E := by
  unfold den__law_runs_right
  rw [y_eq]
  unfold dFn
  show dSeq _ _ _ (RR r none none none none none none none none none g)
  apply dSeq_now
  refine yA_ok ?_
  apply dSeq_now
  refine yB_ok hr fun is hi hl => ?_
  apply dSeq_now
  refine yC_ok hr fun d hd => ?_
  apply dSeq_now
  refine yD_ok hr hi hl hd ?_
  apply dSeq_now
  refine yE_ok fun d hd => ?_
  apply dSeq_now
  refine yF_ok hr hd ?_
  apply dSeq_now
  refine yG_ok hr hi ?_
  apply dSeq_now
  have h10 := hr.ten
  refine yH_ok hr (fun y hy => ?_) (by rw [List.length_map]; exact hl) fun s hs => ?_
  · obtain ⟨i, h, rfl⟩ := List.mem_map.mp hy
    have := hi i h
    exact ⟨nI_ps i, nI_short (by omega) (by omega)⟩
  · subst hs
    exact q
end

end Sag
namespace Sag
open PySem PySem.Spec PyProof.Rows L2 DL
section
variable {g : Gst} {Q : Rv → Gst → Prop} {E : Xd → Gst → Prop}
theorem need_rig_bad {d p : D} (hd : gd d = true) (hf : faultD d = p) (hp : p ≠ .non) (q : E ⟨0, p⟩ g) : den_need_rig [d] g Q E := by
  refine need_rig_ok hd ?_
  rw [hf]
  split
  · exact absurd rfl hp
  · exact q
def NoRig (d : D) : Prop := gd d = true ∧ faultD d = .lds []
theorem no_rig {d : D} (h : NoRig d) (q : E ⟨0, .lds []⟩ g) : den_need_rig [d] g Q E := need_rig_bad h.1 h.2 (by intro z; cases z) q
theorem rig_text_bad {d : D} (h : NoRig d) (q : E ⟨0, .lds []⟩ g) : den_rig_text [d] g Q E := by
  unfold den_rig_text body_rig_text dFn
  show dSeq _ _ _ ⟨[some (.v d), none, none, none, none, none, none, none, none, none, none, none], g⟩
  apply dSeq_now
  unfold dUnp
  exact call_gen [d] ⟨[some (.v d), none, none, none, none, none, none, none, none, none, none, none], g⟩ (fun K E2 q2 => q2) rfl (no_rig h q)
theorem run_text_bad {d x : D} (h : NoRig d) (q : E ⟨0, .lds []⟩ g) : den_run_text [d, x] g Q E := by
  unfold den_run_text
  rw [ut_eq]
  unfold dFn
  show dSeq _ _ _ ⟨[some (.v d), some (.v x), none, none], g⟩
  apply dSeq_now
  unfold utA dDrop
  exact call_gen [d] ⟨[some (.v d), some (.v x), none, none], g⟩ (fun K E2 q2 => q2) rfl (no_rig h q)
theorem read_run_bad {d x : D} (h : NoRig d) (q : E ⟨0, .lds []⟩ g) : den_read_run [d, x] g Q E := by
  unfold den_read_run
  rw [rn_eq]
  unfold dFn
  show dSeq _ _ _ ⟨[some (.v d), some (.v x), none, none, none, none, none, none], g⟩
  apply dSeq_now
  unfold rnA dDrop
  exact call_gen [d] ⟨[some (.v d), some (.v x), none, none, none, none, none, none], g⟩ (fun K E2 q2 => q2) rfl (no_rig h q)
theorem need_words_odd {d : D} (h : gIsStr d = some false) (q : E ⟨1, .lds []⟩ g) : den_need_words [d] g Q E := by
  unfold den_need_words body_need_words dFn
  show dSeq _ _ _ ⟨[some (.v d), none], g⟩
  apply dSeq_now
  refine dif_bs true (s' := ⟨[some (.v d), none], g⟩) (fun {Q2 E2} q2 => ?_) ?_
  · unfold dNot dB dIsT
    refine dvar_v rfl ?_
    simp only [view, bindO, h]
    exact q2
  · exact q
theorem read_rig_odd {d : D} (h : gIsStr d = some false) (q : E ⟨1, .lds []⟩ g) : den_read_rig [d] g Q E := by
  unfold den_read_rig body_read_rig dFn
  show dSeq _ _ _ ⟨[some (.v d), none, none, none, none, none, none, none, none], g⟩
  apply dSeq_now
  unfold dSet
  exact call_gen [d] ⟨[some (.v d), none, none, none, none, none, none, none, none], g⟩ (fun K E2 q2 => q2) rfl (need_words_odd h q)
theorem read_run_odd {r : Rg} {d : D} (hr : RgN r) (h : gIsStr d = some false) (q : E ⟨1, .lds []⟩ g) : den_read_run [rgD r, d] g Q E := by
  unfold den_read_run
  rw [rn_eq]
  unfold dFn
  show dSeq _ _ _ ⟨[some (.v (rgD r)), some (.v d), none, none, none, none, none, none], g⟩
  apply dSeq_at (s' := ⟨[some (.v (rgD r)), some (.v d), none, none, none, none, none, none], g⟩)
  · intro N h2
    unfold rnA dDrop
    exact call_gen [rgD r] ⟨[some (.v (rgD r)), some (.v d), none, none, none, none, none, none], g⟩ (fun K E2 q2 => q2) rfl (need_rig_rg hr h2)
  apply dSeq_now
  unfold rnB dSet
  exact call_gen [d] ⟨[some (.v (rgD r)), some (.v d), none, none, none, none, none, none], g⟩ (fun K E2 q2 => q2) rfl (need_words_odd h q)
end
/-! ### the laps -/
def uA : DS := dSet 8 (dCall den__law_rig 1 [] (dCons (dVar 1) dNil))
def uB : DS := dSet 6 (dCall den__law_among 2 [] (dCons (dVar 1) (dCons (dLst (dCons (dC .non) (dCons (dC (.int 5)) (dCons (dTupK dNil) (dCons (dSl (dVar 8) dNoPart (dPart (dC (.int 4)))) (dCons (dUn gList (dVar 8)) (dCons (dC (.str "rig")) (dCons (dDic0 false) dNil)))))))) dNil)))
def uC1 : DE := dLam den__law_said (dCall den_rig_text 1 [] (dCons (dVar 6) dNil))
def uC2 : DE := dLam den__law_said (dCall den_run_text 2 [] (dCons (dVar 6) (dCons (dC .non) dNil)))
def uC : DS := dSet 3 (dLst (dCons uC1 (dCons uC2 dNil)))
def uD1 : DE := dLam den__law_said (dCall den_read_run 2 [] (dCons (dVar 6) (dCons (dC .non) dNil)))
def uD : DS := dDrop (dAppend (dVar 3) uD1)
def uE : DS := dIfS (dOr (dB (dOp gNe (dVar 3) (dOp gMul (dLst (dCons (dTupK (dCons (dC (.str "rig")) (dCons (dTupK dNil) dNil))) dNil)) (dC (.int 3))))) (dNot (dB (dCall den__law_runs_right 2 [] (dCons (dVar 1) (dCons (dVar 8) dNil)))))) (dRet (dC (.bl false))) dNext
def uF : DS := dSet 7 (dCall den__law_among 2 [] (dCons (dVar 1) (dCons (dLst (dCons (dC .non) (dCons (dC (.int 5)) (dCons (dC (.bl true)) (dCons (dTupK (dCons (dC (.str "0")) dNil)) (dCons (dLst (dCons (dC (.str "0")) dNil)) (dCons (dDic0 false) (dCons (dTupK dNil) (dCons (dOp gPow (dC (.int 10)) (dC (.int 29))) dNil))))))))) dNil)))
def uG1 : DE := dLam den__law_said (dCall den_read_rig 1 [] (dCons (dVar 7) dNil))
def uG2 : DE := dLam den__law_said (dCall den_read_run 2 [] (dCons (dVar 8) (dCons (dVar 7) dNil)))
def uG : DS := dIfS (dB (dOp gNe (dLst (dCons uG1 (dCons uG2 dNil))) (dOp gMul (dLst (dCons (dTupK (dCons (dC (.str "text")) (dCons (dTupK dNil) dNil))) dNil)) (dC (.int 2))))) (dRet (dC (.bl false))) dNext
def uLap : DS := dSeq uA (dSeq uB (dSeq uC (dSeq uD (dSeq uE (dSeq uF uG)))))
abbrev LS (z0 x2 x3 x4 x5 x6 x7 x8 : Option Sv) (g : Gst) : Sd := ⟨[z0, some (.v .dr), x2, x3, x4, x5, x6, x7, x8, none], g⟩
def noRigs (r : Rg) : List D := [.non, .int 5, .lds [], .lds [loadsT r.loads, .lds (r.moves.map mvD), .int r.full, .int r.limit], .lst [loadsT r.loads, .lds (r.moves.map mvD), .int r.full, .int r.limit, .lds [.int r.st, .int r.sb]], .str "rig", .dic false [] []]
theorem noRigs_ok {r : Rg} (hr : RgN r) : ∀ d ∈ noRigs r, NoRig d := by
  have h := (rg_gd hr).1
  have h' : (gd (loadsT r.loads) && (gd (.lds (r.moves.map mvD)) && (gd (.int r.full) && (gd (.int r.limit) && (gd (.lds [.int r.st, .int r.sb]) && true))))) = true := h
  have h1 := h'
  simp only [Bool.and_eq_true] at h'
  obtain ⟨a, b, c, d, e, _⟩ := h'
  have s : gd (.str "rig") = true := by decide +kernel
  intro x hx
  unfold noRigs at hx
  simp only [List.mem_cons, List.not_mem_nil, or_false] at hx
  rcases hx with rfl | rfl | rfl | rfl | rfl | rfl | rfl
  · exact ⟨rfl, rfl⟩
  · exact ⟨gd_int (by omega) (by omega), rfl⟩
  · exact ⟨rfl, rfl⟩
  · refine ⟨?_, rfl⟩
    show (gd (loadsT r.loads) && (gd (.lds (r.moves.map mvD)) && (gd (.int r.full) && (gd (.int r.limit) && true)))) = true
    rw [a, b, c, d]; rfl
  · exact ⟨h1, rfl⟩
  · exact ⟨s, rfl⟩
  · exact ⟨rfl, rfl⟩
def oddsT : List D := [.non, .int 5, .bl true, .lds [.str "0"], .lst [.str "0"], .dic false [] [], .lds [], .int (10 ^ 29)]
theorem oddsT_ok : ∀ d ∈ oddsT, gIsStr d = some false := by
  intro x hx
  unfold oddsT at hx
  simp only [List.mem_cons, List.not_mem_nil, or_false] at hx
  rcases hx with rfl | rfl | rfl | rfl | rfl | rfl | rfl | rfl <;> rfl
section
variable {g : Gst} {z0 x2 x3 x4 x5 x6 x7 x8 : Option Sv} {Dx : Dn}
theorem uA_ok (q : ∀ r, RgN r → Dx.nx (LS z0 x2 x3 x4 x5 x6 x7 (some (.v (rgD r))) g)) : uA Dx (LS z0 x2 x3 x4 x5 x6 x7 x8 g) := by
  unfold uA dSet
  exact call_gen [.dr] (LS z0 x2 x3 x4 x5 x6 x7 x8 g) (fun K E2 q2 => q2) rfl (law_rig_dr fun r hr => q r hr.n)
theorem uB_ok {r : Rg} (hr : RgN r) (q : ∀ d, NoRig d → Dx.nx (LS z0 x2 x3 x4 x5 (some (.v d)) x7 (some (.v (rgD r))) g)) : uB Dx (LS z0 x2 x3 x4 x5 x6 x7 (some (.v (rgD r))) g) := by
  have hl : (noRigs r).length = 7 := rfl
  have i1 : gSl (rgD r) none (some 4) = some (.v (.lds [loadsT r.loads, .lds (r.moves.map mvD), .int r.full, .int r.limit])) := rfl
  have i2 : gList (rgD r) = some (.ol [loadsT r.loads, .lds (r.moves.map mvD), .int r.full, .int r.limit, .lds [.int r.st, .int r.sb]]) := rfl
  unfold uB dSet
  refine call_gen [.dr, .lst (noRigs r)] (LS z0 x2 x3 x4 x5 x6 x7 (some (.v (rgD r))) g) (fun K E2 q2 => ?_) rfl (among_ok (by omega) (by omega) fun d hd => q d (noRigs_ok hr d hd))
  unfold noRigs at q2
  simp only [dCons, dNil, dC, dVar, nthO, DL.settle, bindO, dLst, dTupK, dUn, dOp, dSl, dNoPart, dPart, dDic0, view, fewL, guardB, List.length_cons, List.length_nil, i1, i2]
  exact q2
theorem u_rig {L : Den} {s : Sd} {Q : DK} {E : DX} {tb : DE} (h : ∀ {Q : Rv → Gst → Prop} {E : Xd → Gst → Prop}, E ⟨0, .lds []⟩ s.g → denL tb s.e [] s.g Q E) (q : Q (.v (.lds [.str "rig", .lds []])) s) : dLam den__law_said tb s Q E := by
  refine lam_now fun J _ => said_rig (p := .lds []) (fun {Q E} q => h q) q
theorem u_text {s : Sd} {Q : DK} {E : DX} {tb : DE} (h : ∀ {Q : Rv → Gst → Prop} {E : Xd → Gst → Prop}, E ⟨1, .lds []⟩ s.g → denL tb s.e [] s.g Q E) (q : Q (.v (.lds [.str "text", .lds []])) s) : dLam den__law_said tb s Q E := by
  refine lam_now fun J _ => said_text (p := .lds []) (fun {Q E} q => h q) q
theorem uC_ok {d : D} (hd : NoRig d) (q : Dx.nx (LS z0 x2 (some (.ol [.lds [.str "rig", .lds []], .lds [.str "rig", .lds []]])) x4 x5 (some (.v d)) x7 x8 g)) : uC Dx (LS z0 x2 x3 x4 x5 (some (.v d)) x7 x8 g) := by
  unfold uC dSet dLst
  refine dcons_v (d := .lds [.str "rig", .lds []]) (s' := LS z0 x2 x3 x4 x5 (some (.v d)) x7 x8 g) (fun {Q E} q => ?_) ?_
  · unfold uC1
    refine u_rig (L := fun _ _ _ _ => True) (fun {Q E} q => ?_) q
    unfold denL
    exact call_gen [d] ⟨keepE [z0, some (.v .dr), x2, x3, x4, x5, some (.v d), x7, x8, none], g⟩ (fun K E2 q2 => q2) rfl (rig_text_bad hd q)
  refine dcons_v (d := .lds [.str "rig", .lds []]) (s' := LS z0 x2 x3 x4 x5 (some (.v d)) x7 x8 g) (fun {Q E} q => ?_) ?_
  · unfold uC2
    refine u_rig (L := fun _ _ _ _ => True) (fun {Q E} q => ?_) q
    unfold denL
    exact call_gen [d, .non] ⟨keepE [z0, some (.v .dr), x2, x3, x4, x5, some (.v d), x7, x8, none], g⟩ (fun K E2 q2 => q2) rfl (run_text_bad hd q)
  exact q
theorem uD_ok {d : D} (hd : NoRig d) (q : Dx.nx (LS z0 x2 (some (.ol [.lds [.str "rig", .lds []], .lds [.str "rig", .lds []], .lds [.str "rig", .lds []]])) x4 x5 (some (.v d)) x7 x8 g)) : uD Dx (LS z0 x2 (some (.ol [.lds [.str "rig", .lds []], .lds [.str "rig", .lds []]])) x4 x5 (some (.v d)) x7 x8 g) := by
  unfold uD
  refine app_d (d := .lds [.str "rig", .lds []]) rfl (by simp) (fun Q E q => ?_) q
  unfold uD1
  refine u_rig (L := fun _ _ _ _ => True) (fun {Q E} q => ?_) q
  unfold denL
  exact call_gen [d, .non] ⟨keepE [z0, some (.v .dr), x2, some (.ol [.lds [.str "rig", .lds []], .lds [.str "rig", .lds []]]), x4, x5, some (.v d), x7, x8, none], g⟩ (fun K E2 q2 => q2) rfl (read_run_bad hd q)
theorem uE_ok {r : Rg} (hr : RgN r) (q : Dx.nx (LS z0 x2 (some (.ol [.lds [.str "rig", .lds []], .lds [.str "rig", .lds []], .lds [.str "rig", .lds []]])) x4 x5 x6 x7 (some (.v (rgD r))) g)) : uE Dx (LS z0 x2 (some (.ol [.lds [.str "rig", .lds []], .lds [.str "rig", .lds []], .lds [.str "rig", .lds []]])) x4 x5 x6 x7 (some (.v (rgD r))) g) := by
  have hok : okE 63 (.lds [.str "rig", .lds []]) = true := by decide +kernel
  generalize hR : D.lds [.str "rig", .lds []] = R at *
  have hm : gMul (.lst [R]) (.int 3) = some (.ol [R, R, R]) := rfl
  have hn : gNe (.lst [R, R, R]) (.lst [R, R, R]) = rB false := gNe_refl (by
    show (okE 63 R && (okE 63 R && (okE 63 R && true))) = true
    rw [hok]; rfl)
  unfold uE
  refine dif_bs false (s' := LS z0 x2 (some (.ol [R, R, R])) x4 x5 x6 x7 (some (.v (rgD r))) g) (fun {Q2 E2} q2 => ?_) q
  unfold dOr
  refine dB_bl (b := false) (s' := LS z0 x2 (some (.ol [R, R, R])) x4 x5 x6 x7 (some (.v (rgD r))) g) (fun {Q1 E1} q1 => ?_) ?_
  · unfold dOp
    refine dvar_ol rfl ?_
    simp only [dLst, dTupK, dCons, dNil, dC, DL.settle, bindO, fewL, guardB, List.length_cons, List.length_nil, view, nthO, hR, hm, hn, rB]
    exact q1
  · show dNot _ _ _ _
    unfold dNot
    exact dB_bl (b := true) (s' := LS z0 x2 (some (.ol [R, R, R])) x4 x5 x6 x7 (some (.v (rgD r))) g) (fun {Q1 E1} q1 => call_gen [.dr, rgD r] (LS z0 x2 (some (.ol [R, R, R])) x4 x5 x6 x7 (some (.v (rgD r))) g) (fun K E2 q2 => q2) rfl (runs_right_ok hr q1)) q2
theorem uF_ok (q : ∀ d, gIsStr d = some false → Dx.nx (LS z0 x2 x3 x4 x5 x6 (some (.v d)) x8 g)) : uF Dx (LS z0 x2 x3 x4 x5 x6 x7 x8 g) := by
  have hl : oddsT.length = 8 := rfl
  unfold uF dSet
  exact call_gen [.dr, .lst oddsT] (LS z0 x2 x3 x4 x5 x6 x7 x8 g) (fun K E2 q2 => q2) rfl (among_ok (by omega) (by omega) fun d hd => q d (oddsT_ok d hd))
theorem uG_ok {r : Rg} {d : D} (hr : RgN r) (hd : gIsStr d = some false) (q : Dx.nx (LS z0 x2 x3 x4 x5 x6 (some (.v d)) (some (.v (rgD r))) g)) : uG Dx (LS z0 x2 x3 x4 x5 x6 (some (.v d)) (some (.v (rgD r))) g) := by
  have hok : okE 63 (.lds [.str "text", .lds []]) = true := by decide +kernel
  unfold uG
  refine dif_bs false (s' := LS z0 x2 x3 x4 x5 x6 (some (.v d)) (some (.v (rgD r))) g) (fun {Q2 E2} q2 => ?_) q
  refine dB_bl (b := false) (s' := LS z0 x2 x3 x4 x5 x6 (some (.v d)) (some (.v (rgD r))) g) (fun {Q1 E1} q1 => ?_) q2
  unfold dOp
  unfold dLst
  refine dcons_v (d := .lds [.str "text", .lds []]) (s' := LS z0 x2 x3 x4 x5 x6 (some (.v d)) (some (.v (rgD r))) g) (fun {Q E} q => ?_) ?_
  · unfold uG1
    refine u_text (fun {Q E} q => ?_) q
    unfold denL
    exact call_gen [d] ⟨keepE [z0, some (.v .dr), x2, x3, x4, x5, x6, some (.v d), some (.v (rgD r)), none], g⟩ (fun K E2 q2 => q2) rfl (read_rig_odd hd q)
  refine dcons_v (d := .lds [.str "text", .lds []]) (s' := LS z0 x2 x3 x4 x5 x6 (some (.v d)) (some (.v (rgD r))) g) (fun {Q E} q => ?_) ?_
  · unfold uG2
    refine u_text (fun {Q E} q => ?_) q
    unfold denL
    exact call_gen [rgD r, d] ⟨keepE [z0, some (.v .dr), x2, x3, x4, x5, x6, some (.v d), some (.v (rgD r)), none], g⟩ (fun K E2 q2 => q2) rfl (read_run_odd hr hd q)
  generalize hR : D.lds [.str "text", .lds []] = R at *
  have hm : gMul (.lst [R]) (.int 2) = some (.ol [R, R]) := rfl
  have hn : gNe (.lst [R, R]) (.lst [R, R]) = rB false := gNe_refl (by
    show (okE 63 R && (okE 63 R && true)) = true
    rw [hok]; rfl)
  simp only [dTupK, dCons, dNil, dC, DL.settle, bindO, fewL, guardB, List.length_cons, List.length_nil, view, hR, hm, hn, rB]
  exact q1
theorem uLap_ok (q : ∀ x3 x6 x7 x8, Dx.nx (LS z0 x2 x3 x4 x5 x6 x7 x8 g)) : uLap Dx (LS z0 x2 x3 x4 x5 x6 x7 x8 g) := by
  unfold uLap
  apply dSeq_now
  refine uA_ok fun r hr => ?_
  apply dSeq_now
  refine uB_ok hr fun d hd => ?_
  apply dSeq_now
  refine uC_ok hd ?_
  apply dSeq_now
  refine uD_ok hd ?_
  apply dSeq_now
  refine uE_ok hr ?_
  apply dSeq_now
  refine uF_ok fun d hd => ?_
  exact uG_ok hr hd (q _ _ _ _)
end

end Sag
namespace Sag
open PySem PySem.Spec PyProof.Rows L2 DL
@[irreducible] def bl0 : DS := (dSet 1 (dCall den__law_begun 1 [] (dCons (dVar 0) dNil)))
@[irreducible] def bl1 : DS := (dFor (dRng1 (dOp gAdd (dC (.int 3)) (dOp gFdiv (dOp gMin (dC (.int 60)) (dUn gLenS (dVar 0))) (dC (.int 5))))) (.nm 2) (dSeq (dSet 8 (dCall den__law_rig 1 [] (dCons (dVar 1) dNil)))
    (dSeq (dSet 6 (dCall den__law_among 2 [] (dCons (dVar 1) (dCons (dLst (dCons (dC .non) (dCons (dC (.int 5)) (dCons (dTupK dNil) (dCons (dSl (dVar 8) dNoPart (dPart (dC (.int 4)))) (dCons (dUn gList (dVar 8)) (dCons (dC (.str "rig")) (dCons (dDic0 false) dNil)))))))) dNil))))
    (dSeq (dSet 3 (dLst (dCons (dLam den__law_said (dCall den_rig_text 1 [] (dCons (dVar 6) dNil))) (dCons (dLam den__law_said (dCall den_run_text 2 [] (dCons (dVar 6) (dCons (dC .non) dNil)))) dNil))))
    (dSeq (dDrop (dAppend (dVar 3) (dLam den__law_said (dCall den_read_run 2 [] (dCons (dVar 6) (dCons (dC .non) dNil))))))
    (dSeq (dIfS (dOr (dB (dOp gNe (dVar 3) (dOp gMul (dLst (dCons (dTupK (dCons (dC (.str "rig")) (dCons (dTupK dNil) dNil))) dNil)) (dC (.int 3))))) (dNot (dB (dCall den__law_runs_right 2 [] (dCons (dVar 1) (dCons (dVar 8) dNil)))))) (dRet (dC (.bl false))) dNext)
    (dSeq (dSet 7 (dCall den__law_among 2 [] (dCons (dVar 1) (dCons (dLst (dCons (dC .non) (dCons (dC (.int 5)) (dCons (dC (.bl true)) (dCons (dTupK (dCons (dC (.str "0")) dNil)) (dCons (dLst (dCons (dC (.str "0")) dNil)) (dCons (dDic0 false) (dCons (dTupK dNil) (dCons (dOp gPow (dC (.int 10)) (dC (.int 29))) dNil))))))))) dNil))))
    (dIfS (dB (dOp gNe (dLst (dCons (dLam den__law_said (dCall den_read_rig 1 [] (dCons (dVar 7) dNil))) (dCons (dLam den__law_said (dCall den_read_run 2 [] (dCons (dVar 8) (dCons (dVar 7) dNil)))) dNil))) (dOp gMul (dLst (dCons (dTupK (dCons (dC (.str "text")) (dCons (dTupK dNil) dNil))) dNil)) (dC (.int 2))))) (dRet (dC (.bl false))) dNext))))))))
@[irreducible] def bl2 : DS := (dSet 8 (dTupK (dCons (dTupK (dCons (dC (.int 0)) (dCons (dC (.int 1)) dNil))) (dCons (dTupK (dCons (dTupK (dCons (dC (.int 0)) (dCons (dC (.int 0)) (dCons (dC .non) (dCons (dC (.int 1)) dNil))))) (dCons (dTupK (dCons (dC (.int 1)) (dCons (dC (.int 0)) (dCons (dC .non) (dCons (dC (.int 0)) dNil))))) dNil))) (dCons (dC (.int 60)) (dCons (dC (.int 1)) (dCons (dTupK (dCons (dC (.int 10)) (dCons (dC (.int 1)) dNil))) dNil)))))))
@[irreducible] def bl3 : DS := (dSet 4 (dLst (dCons (dC (.str "")) (dCons (dC (.str "none")) (dCons (dC (.str "none 1")) (dCons (dC (.str "none\n")) (dCons (dC (.str "1 none")) (dCons (dC (.str "0 1 0")) (dCons (dC (.str "0 2")) (dCons (dC (.str "0  1")) (dCons (dC (.str " 0")) (dCons (dC (.str "0 ")) dNil))))))))))))
@[irreducible] def bl4 : DS := (dSet 5 (dLst (dCons (dTupK (dCons (dC (.str "text")) (dCons (dTupK (dCons (dC (.int 0)) (dCons (dC (.int 0)) dNil))) dNil))) (dCons (dLst (dCons (dTupK dNil) dNil)) (dCons (dTupK (dCons (dC (.str "text")) (dCons (dTupK (dCons (dC (.int 0)) (dCons (dC (.int 1)) dNil))) dNil))) (dCons (dTupK (dCons (dC (.str "text")) (dCons (dTupK (dCons (dC (.int 1)) (dCons (dC (.int 0)) dNil))) dNil))) (dCons (dTupK (dCons (dC (.str "text")) (dCons (dTupK (dCons (dC (.int 0)) (dCons (dC (.int 1)) dNil))) dNil))) (dCons (dLst (dCons (dTupK (dCons (dC (.int 0)) (dCons (dC (.int 1)) (dCons (dC (.int 0)) dNil)))) dNil)) (dCons (dTupK (dCons (dC (.str "text")) (dCons (dTupK (dCons (dC (.int 0)) (dCons (dC (.int 1)) dNil))) dNil))) dNil)))))))))
@[irreducible] def bl5 : DS := (dSet 5 (dOp gAdd (dVar 5) (dLst (dCons (dTupK (dCons (dC (.str "text")) (dCons (dTupK (dCons (dC (.int 0)) (dCons (dC (.int 1)) dNil))) dNil))) (dCons (dTupK (dCons (dC (.str "text")) (dCons (dTupK (dCons (dC (.int 0)) (dCons (dC (.int 0)) dNil))) dNil))) (dCons (dTupK (dCons (dC (.str "text")) (dCons (dTupK (dCons (dC (.int 0)) (dCons (dC (.int 1)) dNil))) dNil))) dNil))))))
@[irreducible] def bl6 : DS := (dRet (dOp gEq (dLc (dSeqI (dVar 4)) (.nm 9) dYes (dLam den__law_said (dCall den_read_run 2 [] (dCons (dVar 8) (dCons (dVar 9) dNil)))) [9]) (dVar 5)))
theorem bleq : body_law = (dSeq bl0 (dSeq bl1 (dSeq bl2 (dSeq bl3 (dSeq bl4 (dSeq bl5 bl6)))))) := by
  unfold body_law bl0 bl1 bl2 bl3 bl4 bl5 bl6
  rfl

def hR : Rg := { loads := [0, 1], moves := [{ b := 0, l := 0, m := none, e := 1 }, { b := 1, l := 0, m := none, e := 0 }], full := 60, limit := 1, st := 10, sb := 1 }
theorem hR_n : RgN hR where
  loads := { two := by decide, six := by decide, rng := by decide, hd := rfl, idle := by decide }
  some_ := by decide
  ten := by decide
  moves := by
    intro m hm
    have : m = { b := 0, l := 0, m := none, e := 1 } ∨ m = { b := 1, l := 0, m := none, e := 0 } := by simpa [hR] using hm
    rcases this with rfl | rfl <;> constructor <;> simp [hR]
  f0 := by decide
  f1 := by decide
  l0 := by decide
  l1 := by decide
  s0 := by decide
  s1 := by decide
  b0 := by decide
  b1 := by decide
  cop := by decide
def hTs : List D := [.str "", .str "none", .str "none 1", .str "none\n", .str "1 none", .str "0 1 0", .str "0 2", .str "0  1", .str " 0", .str "0 "]
abbrev tx (a b : Int) : D := .lds [.str "text", .lds [.int a, .int b]]
def hD1 : List D := [tx 0 0, .lst [.lds []], tx 0 1, tx 1 0, tx 0 1, .lst [.lds [.int 0, .int 1, .int 0]], tx 0 1]
def hD2 : List D := [tx 0 1, tx 0 0, tx 0 1]
def rdF (d : D) : D ⊕ List Int := match d with
  | .str t => rdRun numIn 2 (lnsOf t)
  | _ => .inr []
theorem hTs_ok : ∀ d ∈ hTs, ∃ t, d = .str t ∧ PS t ∧ t.length ≤ 10 := by
  intro d hd
  unfold hTs at hd
  simp only [List.mem_cons, List.not_mem_nil, or_false] at hd
  rcases hd with h | h | h | h | h | h | h | h | h | h
  all_goals exact ⟨_, h, okW_ok (by decide +kernel)⟩
theorem hD_eq : gEq (.lst (hTs.map fun d => duD (rdF d))) (.lst (hD1 ++ hD2)) = some (.v (.bl true)) := by
  have h1 : okE 64 (.lst (hTs.map fun d => duD (rdF d))) = true := by decide +kernel
  have h2 : okE 64 (.lst (hD1 ++ hD2)) = true := by decide +kernel
  have h3 : eqD (.lst (hTs.map fun d => duD (rdF d))) (.lst (hD1 ++ hD2)) = true := by decide +kernel
  have h0 : eq0 (.lst (hTs.map fun d => duD (rdF d))) (.lst (hD1 ++ hD2)) = none := rfl
  unfold gEq
  rw [h0, h1, h2, h3]
  rfl
section
variable {g : Gst} {z0 x2 x3 x4 x5 x6 x7 x8 : Option Sv} {Dx : Dn}
theorem ok0 {m : Nat} (hm : m ≤ 63) {z1 : Option Sv} (q : Dx.nx (LS (some (.v (.scr m))) x2 x3 x4 x5 x6 x7 x8 g)) : bl0 Dx ⟨[some (.v (.scr m)), z1, x2, x3, x4, x5, x6, x7, x8, none], g⟩ := by
  unfold bl0
  exact ⟨m, rfl, hm, q⟩
theorem ok1 {m : Nat} (hm : m ≤ 63) (q : ∀ x2 x3 x6 x7 x8, Dx.nx (LS (some (.v (.scr m))) x2 x3 x4 x5 x6 x7 x8 g)) : bl1 Dx (LS (some (.v (.scr m))) x2 x3 x4 x5 x6 x7 x8 g) := by
  have eb : bl1 = dFor (dRng1 (dOp gAdd (dC (.int 3)) (dOp gFdiv (dOp gMin (dC (.int 60)) (dUn gLenS (dVar 0))) (dC (.int 5))))) (.nm 2) uLap := by unfold bl1 uLap uA uB uC uC1 uC2 uD uD1 uE uF uG uG1 uG2; rfl
  rw [eb]
  unfold dFor
  simp only [dRng1, gAdd, gFdiv, gMin, gLenS, DL.intD, ifB, dFn, dSeq, dIfS, dOr, dAnd, dNot, dB, dIsT, dVar, startD, nthO, setN, Sd.put, List.map_cons, List.map_nil, List.cons_append, List.nil_append, List.length_cons, List.length_nil, List.replicate, view, DL.settle, bindO, gIsInt, gIsBool, gIsTup, gIsStr, gIsLst, dRet, dRetN, dC, outR, dNext, dOp, dUn, gIsN, gNotN, gGe, gLe, gGt, gLt, gI, dAndV, dOrV, dNotV, rB, rI', isNonD, dCall, dCons, dNil, guardB, dSet, dStore, dTup, dTupK, dLst, fewL, dIf, dChain, dDrop, Bool.not_true, Bool.not_false, List.append_nil, Nat.reduceAdd, Nat.reduceSub, Nat.reduceBEq, beq_self_eq_true, dPar, dUA, unAl, DL.storeAll, dUnp, patStore, DL.putAll, Sd.wipe, wipeE, putO, clrN, gNe_ii, gEq_ii, gNe_l0, gEq_l0, gNe_t0, gEq_t0, gLen_t, gLen_l, gIx_t, gIx_l, atI_0, atI_1, atI_2, atI_3, atI_4, Option.map_some]
  have e1 : (decide ((5 : Int) ≠ 0) && decide ((5 : Int).natAbs < 1073741824)) = true := by decide
  simp only [e1, dFn, dSeq, dIfS, dOr, dAnd, dNot, dB, dIsT, dVar, startD, nthO, setN, Sd.put, List.map_cons, List.map_nil, List.cons_append, List.nil_append, List.length_cons, List.length_nil, List.replicate, view, DL.settle, bindO, gIsInt, gIsBool, gIsTup, gIsStr, gIsLst, dRet, dRetN, dC, outR, dNext, dOp, dUn, gIsN, gNotN, gGe, gLe, gGt, gLt, gI, dAndV, dOrV, dNotV, rB, rI', isNonD, dCall, dCons, dNil, guardB, dSet, dStore, dTup, dTupK, dLst, fewL, dIf, dChain, dDrop, Bool.not_true, Bool.not_false, List.append_nil, Nat.reduceAdd, Nat.reduceSub, Nat.reduceBEq, beq_self_eq_true, dPar, dUA, unAl, DL.storeAll, dUnp, patStore, DL.putAll, Sd.wipe, wipeE, putO, clrN, gNe_ii, gEq_ii, gNe_l0, gEq_l0, gNe_t0, gEq_t0, gLen_t, gLen_l, gIx_t, gIx_l, atI_0, atI_1, atI_2, atI_3, atI_4, Option.map_some]
  have hr : ∀ k : Int, 0 ≤ k → k ≤ 63 → (decide (-16777216 ≤ 3 + k.fdiv 5) && decide (3 + k.fdiv 5 ≤ 16777216)) = true := fun k k0 k1 => by
    have : k.fdiv 5 = k / 5 := Int.fdiv_eq_ediv_of_nonneg _ (by decide)
    rw [this, decide_eq_true (by omega), decide_eq_true (by omega)]; rfl
  rw [hr _ (by split <;> omega) (by split <;> omega)]
  refine for_gen (fun k s => ∃ x2 x3 x6 x7 x8, s = LS (some (.v (.scr m))) x2 x3 x4 x5 x6 x7 x8 g) _ 0 _ ⟨_, _, _, _, _, rfl⟩ (fun k d s N hl hi hN => ?_) fun s hi => ?_
  · obtain ⟨x2, x3, x6, x7, x8, rfl⟩ := hi
    exact uLap_ok fun x3 x6 x7 x8 => hN _ ⟨_, _, _, _, _, rfl⟩
  · obtain ⟨x2, x3, x6, x7, x8, rfl⟩ := hi
    exact q _ _ _ _ _
theorem ok2 (q : Dx.nx (LS z0 x2 x3 x4 x5 x6 x7 (some (.v (rgD hR))) g)) : bl2 Dx (LS z0 x2 x3 x4 x5 x6 x7 x8 g) := by
  have e : rgD hR = .lds [.lds [.int 0, .int 1], .lds [.lds [.int 0, .int 0, .non, .int 1], .lds [.int 1, .int 0, .non, .int 0]], .int 60, .int 1, .lds [.int 10, .int 1]] := rfl
  rw [e] at q
  unfold bl2
  simp only [dSet, dTupK, dCons, dNil, DL.settle, bindO, dC, fewL, guardB, List.length_cons, List.length_nil]
  exact q
theorem ok3 (q : Dx.nx (LS z0 x2 x3 (some (.ol hTs)) x5 x6 x7 x8 g)) : bl3 Dx (LS z0 x2 x3 x4 x5 x6 x7 x8 g) := by
  unfold hTs at q
  unfold bl3
  simp only [dSet, dLst, dCons, dNil, DL.settle, bindO, dC, fewL, guardB, List.length_cons, List.length_nil]
  exact q
theorem ok4 (q : Dx.nx (LS z0 x2 x3 x4 (some (.ol hD1)) x6 x7 x8 g)) : bl4 Dx (LS z0 x2 x3 x4 x5 x6 x7 x8 g) := by
  unfold hD1 at q
  unfold bl4
  simp only [dSet, dLst, dTupK, dCons, dNil, DL.settle, bindO, dC, fewL, guardB, List.length_cons, List.length_nil]
  exact q
theorem ok5 (q : Dx.nx (LS z0 x2 x3 x4 (some (.ol (hD1 ++ hD2))) x6 x7 x8 g)) : bl5 Dx (LS z0 x2 x3 x4 (some (.ol hD1)) x6 x7 x8 g) := by
  have ha : gAdd (.lst hD1) (.lst hD2) = some (.ol (hD1 ++ hD2)) := gAdd_ll (by decide)
  have e2 : hD2 = [tx 0 1, tx 0 0, tx 0 1] := rfl
  generalize hD1 ++ hD2 = A at *
  generalize hD1 = B at *
  rw [e2] at ha
  unfold bl5 dSet
  unfold dOp
  refine dvar_ol rfl ?_
  simp only [dLst, dTupK, dCons, dNil, DL.settle, bindO, dC, fewL, guardB, List.length_cons, List.length_nil, view, nthO, ha]
  exact q
theorem due_set {R : D ⊕ List Int} {s : Sd} : settle (dueR R) s = some (duD R, s) := by
  cases R <;> rfl
theorem hand_one {t : Str} {Q : DK} {E : DX} (ht : PS t) (hl : t.length ≤ 1000) (q : Q (dueR (rdRun numIn 2 (lnsOf t))) (⟨[z0, some (.v .dr), x2, x3, x4, x5, x6, x7, some (.v (rgD hR)), some (.v (.str t))], g⟩ : Sd)) : dLam den__law_said (dCall den_read_run 2 [] (dCons (dVar 8) (dCons (dVar 9) dNil))) (⟨[z0, some (.v .dr), x2, x3, x4, x5, x6, x7, some (.v (rgD hR)), some (.v (.str t))], g⟩ : Sd) Q E := by
  have hrd := fun (g : Gst) (Q : Rv → Gst → Prop) (E : Xd → Gst → Prop) => read_run_any (g := g) (Q := Q) (E := E) hR_n ht hl
  have e2 : ((hR.moves.length : Nat) : Int) = 2 := rfl
  rw [e2] at hrd
  generalize rdRun numIn 2 (lnsOf t) = R at *
  generalize rgD hR = r at *
  refine lam_now fun J _ => ?_
  cases R with
  | inl p =>
    refine said_text (p := p) (fun {Q E} q => ?_) q
    unfold denL
    exact call_gen [r, .str t] ⟨keepE [z0, some (.v .dr), x2, x3, x4, x5, x6, x7, some (.v r), some (.v (.str t))], g⟩ (fun K E2 q2 => q2) rfl (hrd _ _ _ q)
  | inr is =>
    refine said_v (d := .lds (is.map D.int)) (fun {Q E} q => ?_) q
    unfold denL
    exact call_gen [r, .str t] ⟨keepE [z0, some (.v .dr), x2, x3, x4, x5, x6, x7, some (.v r), some (.v (.str t))], g⟩ (fun K E2 q2 => q2) rfl (hrd _ _ _ q)
theorem ok6 {ts du : List D} (hts : ∀ d ∈ ts, ∃ t, d = .str t ∧ PS t ∧ t.length ≤ 10) (he : gEq (.lst (ts.map fun d => duD (rdF d))) (.lst du) = some (.v (.bl true))) (q : ∀ s, Dx.rt (.v (.bl true)) s) : bl6 Dx (LS z0 x2 x3 (some (.ol ts)) (some (.ol du)) x6 x7 (some (.v (rgD hR))) g) := by
  unfold bl6 dRet
  unfold dOp
  unfold dLc dSeqI
  refine dvar_ol rfl ?_
  simp only [DL.settle, view, nthO, bindO, seqOf]
  refine lc_res (fun d => ⟨[z0, some (.v .dr), x2, x3, some (.v (.lst ts)), some (.ol du), x6, x7, some (.v (rgD hR)), some (.v d)], g⟩) (fun d => dueR (rdF d)) (fun d => duD (rdF d)) (fun d s => due_set) ts (fun _ _ => rfl) (fun _ _ => rfl) (fun d hd Q1 E1 q1 => ?_) [] ?_
  · obtain ⟨t, rfl, ht, hl⟩ := hts d hd
    exact hand_one ht (by omega) q1
  · refine dvar_ol rfl ?_
    rw [List.nil_append]
    show bindO (gEq (.lst (ts.map fun d => duD (rdF d))) (.lst du)) (fun z => Dx.rt z _)
    rw [he]
    exact q _
end
theorem dSeq_midC {A B : DS} {D1 : Dn} {s : Sd} (st : Option Sv → Option Sv → Option Sv → Option Sv → Option Sv → Sd) (hA : ∀ N : Sd → Prop, (∀ a b c d e, N (st a b c d e)) → A { D1 with nx := N } s) (hB : ∀ a b c d e, B D1 (st a b c d e)) : dSeq A B D1 s :=
  hA _ fun a b c d e => hB a b c d e
theorem plain : ∀ m, m ≤ 63 → den_law [.scr m] [] (fun r _ => r = .v (.bl true)) (fun _ _ => False) := by
  intro m hm
  unfold den_law dFn
  rw [bleq]
  show dSeq _ _ _ ⟨[some (.v (.scr m)), none, none, none, none, none, none, none, none, none], []⟩
  apply dSeq_at (s' := LS (some (.v (.scr m))) none none none none none none none [])
  · intro N q
    exact ok0 hm q
  apply dSeq_midC (fun a b c d e => LS (some (.v (.scr m))) a b none none c d e [])
  · intro N hN
    apply ok1 hm
    exact hN
  intro a b c d e
  apply dSeq_at (s' := LS (some (.v (.scr m))) a b none none c d (some (.v (rgD hR))) [])
  · intro N q
    exact ok2 q
  apply dSeq_at (s' := LS (some (.v (.scr m))) a b (some (.ol hTs)) none c d (some (.v (rgD hR))) [])
  · intro N q
    exact ok3 q
  apply dSeq_at (s' := LS (some (.v (.scr m))) a b (some (.ol hTs)) (some (.ol hD1)) c d (some (.v (rgD hR))) [])
  · intro N q
    exact ok4 q
  apply dSeq_at (s' := LS (some (.v (.scr m))) a b (some (.ol hTs)) (some (.ol (hD1 ++ hD2))) c d (some (.v (rgD hR))) [])
  · intro N q
    exact ok5 q
  exact ok6 hTs_ok hD_eq fun s => rfl

end Sag
namespace Sag
open PySem PySem.Spec PyProof.Rows L2 DL
section
open PySem.W
theorem callee_ren {G : GT} {P : Program} {w : World} {K : PySem.W.Frag} {mg : Str → Option Value} {base : Heap} {k m : Nat} {x y : Str} {F : Den} {dds : List D} {a : Addr} (h : DL.Callee G P w K mg base k x m F dds) (h1 : mg x = some (.ref a)) (h2 : mg y = some (.ref a)) : DL.Callee G P w K mg base k y m F dds := by
  obtain ⟨f, fd, us, dvs, ps, e, r⟩ := h
  rw [h1] at e
  cases e
  exact ⟨_, fd, us, dvs, ps, h2, r⟩
def exG (C0 C1 C3 C6 C8 f7 f8 cP29 cP30 : Addr) : GT := ⟨fun k => match k with
  | 0 => C0
  | 1 => C1
  | 3 => C3
  | 6 => C6
  | 8 => C8
  | 20 => f7
  | 21 => f8
  | _ => 0, [(cP29, "_law_runs_right" ++ ".<locals>." ++ "<lambda>"), (cP30, "law" ++ ".<locals>." ++ "<lambda>")]⟩
theorem all_mk {P : Program} {w : World} {K : PySem.W.Frag} {ts : List Addr} {h : Heap} {mg : Str → Option Value} (X : K.In h) (Gn : h.Ns mainGlobals mg)
    {dT7 : Addr} {dTc7 : Value} {dTd7 : Option Addr} {dTn7 : Nat} {dTs7 : Array (Option Value)} {dTk7_0 : Tok}
    {cA29 cP29 : Addr}
    {cA30 cP30 : Addr}
    {f0 f1 f2 f3 f4 f5 f6 f7 f8 f9 f10 f11 f12 f13 f14 f15 f16 f17 f18 f19 f20 f21 f22 f23 f24 f25 f26 f27 f28 f29 f30 : Addr}
    {oc0 kV0 dc0 pm0 cd0 ct0 oc1 kV1 dc1 pm1 cd1 ct1 oc2 kV2 dc2 pm2 cd2 ct2 oc3 kV3 dc3 pm3 cd3 ct3 oc4 kV4 dc4 pm4 cd4 ct4 oc5 kV5 dc5 pm5 cd5 ct5 oc6 kV6 dc6 pm6 cd6 ct6 oc7 kV7 dc7 pm7 cd7 ct7 oc8 kV8 dc8 pm8 cd8 ct8 oc9 kV9 dc9 pm9 cd9 ct9 oc10 kV10 dc10 pm10 cd10 ct10 oc11 kV11 dc11 pm11 cd11 ct11 oc12 kV12 dc12 pm12 cd12 ct12 oc13 kV13 dc13 pm13 cd13 ct13 oc14 kV14 dc14 pm14 cd14 ct14 oc15 kV15 dc15 pm15 cd15 ct15 oc16 kV16 dc16 pm16 cd16 ct16 oc17 kV17 dc17 pm17 cd17 ct17 oc18 kV18 dc18 pm18 cd18 ct18 oc19 kV19 dc19 pm19 cd19 ct19 oc20 kV20 dc20 pm20 cd20 ct20 oc21 kV21 dc21 pm21 cd21 ct21 oc22 kV22 dc22 pm22 cd22 ct22 oc23 kV23 dc23 pm23 cd23 ct23 oc24 kV24 dc24 pm24 cd24 ct24 oc25 kV25 dc25 pm25 cd25 ct25 oc26 kV26 dc26 pm26 cd26 ct26 oc27 kV27 dc27 pm27 cd27 ct27 oc28 kV28 dc28 pm28 cd28 ct28 oc29 kV29 dc29 pm29 ct29 oc30 kV30 dc30 pm30 ct30 : Value}
    {od0 an0 od1 an1 od2 an2 od3 an3 od4 an4 od5 an5 od6 an6 od7 an7 od8 an8 od9 an9 od10 an10 od11 an11 od12 an12 od13 an13 od14 an14 od15 an15 od16 an16 od17 an17 od18 an18 od19 an19 od20 an20 od21 an21 od22 an22 od23 an23 od24 an24 od25 an25 od26 an26 od27 an27 od28 an28 od29 an29 od30 an30 : Option Addr}
    {sl0 sl1 sl2 sl3 sl4 sl5 sl6 sl7 sl8 sl9 sl10 sl11 sl12 sl13 sl14 sl15 sl16 sl17 sl18 sl19 sl20 sl21 sl22 sl23 sl24 sl25 sl26 sl27 sl28 sl29 sl30 : Array (Option Value)}
    {tk_DASH tk_FIGURES tk_FULL tk_LEAST_LOADS tk_LIMIT tk_LOADS tk_MOST_IDLE tk_MOST_LIMIT tk_MOST_LOAD tk_MOST_LOADS tk_MOST_MOVES_rigs tk_MOST_MOVES_texts tk_MOST_PART tk_MOST_RUN tk_MOST_STANDINGS tk_MOST_VOLTS tk_MOVE tk_MOVE_WORDS tk_NONE tk_SAG : Tok}
    {C0 C1 C3 C6 C8 : Addr}
    {oc0C oc1C oc3C oc6C oc8C : ClassData}
    {nm0 qn0 qI0 msg0 : Str} {N0 fI0 cda0 cc0 : Addr} {bs0 sub0 : List Value} {sn0 : List Str} {ab0 : Bool} {col0 : Option Bool} {dd0 odI0 anI0 cdd0 cld0 : Option Addr} {m0_0 m1_0 m2_0 m3_0 m5_0 : Option Value} {ocI0 dcI0 pmI0 ctI0 ccl0 clc0 : Value} {slI0 ccs0 csl0 : Array (Option Value)} {vs0 : Array Value} {j0 : Nat} {r1_0 r2_0 pa0 pb0 pc0 pd0 pe0 pf0 qa0 qb0 qc0 qd0 : Pos} {tf0 : Tok} {file0 : Str}
    {nm1 qn1 qI1 msg1 : Str} {N1 fI1 cda1 cc1 : Addr} {bs1 sub1 : List Value} {sn1 : List Str} {ab1 : Bool} {col1 : Option Bool} {dd1 odI1 anI1 cdd1 cld1 : Option Addr} {m0_1 m1_1 m2_1 m3_1 m5_1 : Option Value} {ocI1 dcI1 pmI1 ctI1 ccl1 clc1 : Value} {slI1 ccs1 csl1 : Array (Option Value)} {vs1 : Array Value} {j1 : Nat} {r1_1 r2_1 pa1 pb1 pc1 pd1 pe1 pf1 qa1 qb1 qc1 qd1 : Pos} {tf1 : Tok} {file1 : Str}
    {nm3 qn3 qI3 msg3 : Str} {N3 fI3 cda3 cc3 : Addr} {bs3 sub3 : List Value} {sn3 : List Str} {ab3 : Bool} {col3 : Option Bool} {dd3 odI3 anI3 cdd3 cld3 : Option Addr} {m0_3 m1_3 m2_3 m3_3 m5_3 : Option Value} {ocI3 dcI3 pmI3 ctI3 ccl3 clc3 : Value} {slI3 ccs3 csl3 : Array (Option Value)} {vs3 : Array Value} {j3 : Nat} {r1_3 r2_3 pa3 pb3 pc3 pd3 pe3 pf3 qa3 qb3 qc3 qd3 : Pos} {tf3 : Tok} {file3 : Str}
    (a0 : nsIn K mainGlobals "is_whole" = some (some (.ref f0)))
    (l0 : K.lookup f0 = some ⟨oc0, od0, .func (fnOf "is_whole" "is_whole" (defArgs (top 14)) (defBody (top 14)) (defScope (top 14)) .none kV0 dc0 pm0 an0 cd0 ct0), sl0⟩)
    (c0 : codeIn K cd0 "is_whole" = true)
    (k0 : keepIn K (.ref f0) = true)
    (a1 : nsIn K mainGlobals "common" = some (some (.ref f1)))
    (l1 : K.lookup f1 = some ⟨oc1, od1, .func (fnOf "common" "common" (defArgs (top 15)) (defBody (top 15)) (defScope (top 15)) .none kV1 dc1 pm1 an1 cd1 ct1), sl1⟩)
    (c1 : codeIn K cd1 "common" = true)
    (k1 : keepIn K (.ref f1) = true)
    (a2 : nsIn K mainGlobals "is_fraction" = some (some (.ref f2)))
    (l2 : K.lookup f2 = some ⟨oc2, od2, .func (fnOf "is_fraction" "is_fraction" (defArgs (top 16)) (defBody (top 16)) (defScope (top 16)) .none kV2 dc2 pm2 an2 cd2 ct2), sl2⟩)
    (c2 : codeIn K cd2 "is_fraction" = true)
    (k2 : keepIn K (.ref f2) = true)
    (a3 : nsIn K mainGlobals "are_loads" = some (some (.ref f3)))
    (l3 : K.lookup f3 = some ⟨oc3, od3, .func (fnOf "are_loads" "are_loads" (defArgs (top 17)) (defBody (top 17)) (defScope (top 17)) .none kV3 dc3 pm3 an3 cd3 ct3), sl3⟩)
    (c3 : codeIn K cd3 "are_loads" = true)
    (k3 : keepIn K (.ref f3) = true)
    (a4 : nsIn K mainGlobals "is_move_rigs" = some (some (.ref f4)))
    (l4 : K.lookup f4 = some ⟨oc4, od4, .func (fnOf "is_move" "is_move" (defArgs (top 18)) (defBody (top 18)) (defScope (top 18)) .none kV4 dc4 pm4 an4 cd4 ct4), sl4⟩)
    (c4 : codeIn K cd4 "is_move" = true)
    (k4 : keepIn K (.ref f4) = true)
    (a5 : nsIn K mainGlobals "rig_fault" = some (some (.ref f5)))
    (l5 : K.lookup f5 = some ⟨oc5, od5, .func (fnOf "rig_fault" "rig_fault" (defArgs (top 20)) (defBody (top 20)) (defScope (top 20)) .none kV5 dc5 pm5 an5 cd5 ct5), sl5⟩)
    (c5 : codeIn K cd5 "rig_fault" = true)
    (k5 : keepIn K (.ref f5) = true)
    (a6 : nsIn K mainGlobals "need_rig" = some (some (.ref f6)))
    (l6 : K.lookup f6 = some ⟨oc6, od6, .func (fnOf "need_rig" "need_rig" (defArgs (top 21)) (defBody (top 21)) (defScope (top 21)) .none kV6 dc6 pm6 an6 cd6 ct6), sl6⟩)
    (c6 : codeIn K cd6 "need_rig" = true)
    (k6 : keepIn K (.ref f6) = true)
    (a7 : nsIn K mainGlobals "number_in" = some (some (.ref f7)))
    (l7 : K.lookup f7 = some ⟨oc7, od7, .func (fnOf "number_in" "number_in" (defArgs (top 37)) (defBody (top 37)) (defScope (top 37)) (.ref dT7) kV7 dc7 pm7 an7 cd7 ct7), sl7⟩)
    (d7 : K.lookup dT7 = some ⟨dTc7, dTd7, .seq #[.int 5 dTk7_0] dTn7, dTs7⟩)
    (c7 : codeIn K cd7 "number_in" = true)
    (k7 : keepIn K (.ref f7) = true)
    (a8 : nsIn K mainGlobals "fraction_in" = some (some (.ref f8)))
    (l8 : K.lookup f8 = some ⟨oc8, od8, .func (fnOf "fraction_in" "fraction_in" (defArgs (top 38)) (defBody (top 38)) (defScope (top 38)) .none kV8 dc8 pm8 an8 cd8 ct8), sl8⟩)
    (c8 : codeIn K cd8 "fraction_in" = true)
    (k8 : keepIn K (.ref f8) = true)
    (a9 : nsIn K mainGlobals "rig_text" = some (some (.ref f9)))
    (l9 : K.lookup f9 = some ⟨oc9, od9, .func (fnOf "rig_text" "rig_text" (defArgs (top 39)) (defBody (top 39)) (defScope (top 39)) .none kV9 dc9 pm9 an9 cd9 ct9), sl9⟩)
    (c9 : codeIn K cd9 "rig_text" = true)
    (k9 : keepIn K (.ref f9) = true)
    (a10 : nsIn K mainGlobals "is_move" = some (some (.ref f10)))
    (l10 : K.lookup f10 = some ⟨oc10, od10, .func (fnOf "is_move" "is_move" (defArgs (top 40)) (defBody (top 40)) (defScope (top 40)) .none kV10 dc10 pm10 an10 cd10 ct10), sl10⟩)
    (c10 : codeIn K cd10 "is_move" = true)
    (k10 : keepIn K (.ref f10) = true)
    (a11 : nsIn K mainGlobals "run_text" = some (some (.ref f11)))
    (l11 : K.lookup f11 = some ⟨oc11, od11, .func (fnOf "run_text" "run_text" (defArgs (top 42)) (defBody (top 42)) (defScope (top 42)) .none kV11 dc11 pm11 an11 cd11 ct11), sl11⟩)
    (c11 : codeIn K cd11 "run_text" = true)
    (k11 : keepIn K (.ref f11) = true)
    (a12 : nsIn K mainGlobals "need_words" = some (some (.ref f12)))
    (l12 : K.lookup f12 = some ⟨oc12, od12, .func (fnOf "need_words" "need_words" (defArgs (top 43)) (defBody (top 43)) (defScope (top 43)) .none kV12 dc12 pm12 an12 cd12 ct12), sl12⟩)
    (c12 : codeIn K cd12 "need_words" = true)
    (k12 : keepIn K (.ref f12) = true)
    (a13 : nsIn K mainGlobals "words_at" = some (some (.ref f13)))
    (l13 : K.lookup f13 = some ⟨oc13, od13, .func (fnOf "words_at" "words_at" (defArgs (top 44)) (defBody (top 44)) (defScope (top 44)) .none kV13 dc13 pm13 an13 cd13 ct13), sl13⟩)
    (c13 : codeIn K cd13 "words_at" = true)
    (k13 : keepIn K (.ref f13) = true)
    (a14 : nsIn K mainGlobals "need_count" = some (some (.ref f14)))
    (l14 : K.lookup f14 = some ⟨oc14, od14, .func (fnOf "need_count" "need_count" (defArgs (top 45)) (defBody (top 45)) (defScope (top 45)) .none kV14 dc14 pm14 an14 cd14 ct14), sl14⟩)
    (c14 : codeIn K cd14 "need_count" = true)
    (k14 : keepIn K (.ref f14) = true)
    (a15 : nsIn K mainGlobals "read_loads" = some (some (.ref f15)))
    (l15 : K.lookup f15 = some ⟨oc15, od15, .func (fnOf "read_loads" "read_loads" (defArgs (top 46)) (defBody (top 46)) (defScope (top 46)) .none kV15 dc15 pm15 an15 cd15 ct15), sl15⟩)
    (c15 : codeIn K cd15 "read_loads" = true)
    (k15 : keepIn K (.ref f15) = true)
    (a16 : nsIn K mainGlobals "read_move" = some (some (.ref f16)))
    (l16 : K.lookup f16 = some ⟨oc16, od16, .func (fnOf "read_move" "read_move" (defArgs (top 47)) (defBody (top 47)) (defScope (top 47)) .none kV16 dc16 pm16 an16 cd16 ct16), sl16⟩)
    (c16 : codeIn K cd16 "read_move" = true)
    (k16 : keepIn K (.ref f16) = true)
    (a17 : nsIn K mainGlobals "read_one" = some (some (.ref f17)))
    (l17 : K.lookup f17 = some ⟨oc17, od17, .func (fnOf "read_one" "read_one" (defArgs (top 48)) (defBody (top 48)) (defScope (top 48)) .none kV17 dc17 pm17 an17 cd17 ct17), sl17⟩)
    (c17 : codeIn K cd17 "read_one" = true)
    (k17 : keepIn K (.ref f17) = true)
    (a18 : nsIn K mainGlobals "read_rig" = some (some (.ref f18)))
    (l18 : K.lookup f18 = some ⟨oc18, od18, .func (fnOf "read_rig" "read_rig" (defArgs (top 49)) (defBody (top 49)) (defScope (top 49)) .none kV18 dc18 pm18 an18 cd18 ct18), sl18⟩)
    (c18 : codeIn K cd18 "read_rig" = true)
    (k18 : keepIn K (.ref f18) = true)
    (a19 : nsIn K mainGlobals "read_run" = some (some (.ref f19)))
    (l19 : K.lookup f19 = some ⟨oc19, od19, .func (fnOf "read_run" "read_run" (defArgs (top 50)) (defBody (top 50)) (defScope (top 50)) .none kV19 dc19 pm19 an19 cd19 ct19), sl19⟩)
    (c19 : codeIn K cd19 "read_run" = true)
    (k19 : keepIn K (.ref f19) = true)
    (a20 : nsIn K mainGlobals "_law_begun" = some (some (.ref f20)))
    (l20 : K.lookup f20 = some ⟨oc20, od20, .func (fnOf "_law_begun" "_law_begun" (defArgs (top 52)) (defBody (top 52)) (defScope (top 52)) .none kV20 dc20 pm20 an20 cd20 ct20), sl20⟩)
    (c20 : codeIn K cd20 "_law_begun" = true)
    (k20 : keepIn K (.ref f20) = true)
    (a21 : nsIn K mainGlobals "_law_next" = some (some (.ref f21)))
    (l21 : K.lookup f21 = some ⟨oc21, od21, .func (fnOf "_law_next" "_law_next" (defArgs (top 53)) (defBody (top 53)) (defScope (top 53)) .none kV21 dc21 pm21 an21 cd21 ct21), sl21⟩)
    (c21 : codeIn K cd21 "_law_next" = true)
    (k21 : keepIn K (.ref f21) = true)
    (a22 : nsIn K mainGlobals "_law_among" = some (some (.ref f22)))
    (l22 : K.lookup f22 = some ⟨oc22, od22, .func (fnOf "_law_among" "_law_among" (defArgs (top 54)) (defBody (top 54)) (defScope (top 54)) .none kV22 dc22 pm22 an22 cd22 ct22), sl22⟩)
    (c22 : codeIn K cd22 "_law_among" = true)
    (k22 : keepIn K (.ref f22) = true)
    (a23 : nsIn K mainGlobals "_law_loads" = some (some (.ref f23)))
    (l23 : K.lookup f23 = some ⟨oc23, od23, .func (fnOf "_law_loads" "_law_loads" (defArgs (top 55)) (defBody (top 55)) (defScope (top 55)) .none kV23 dc23 pm23 an23 cd23 ct23), sl23⟩)
    (c23 : codeIn K cd23 "_law_loads" = true)
    (k23 : keepIn K (.ref f23) = true)
    (a24 : nsIn K mainGlobals "_law_move" = some (some (.ref f24)))
    (l24 : K.lookup f24 = some ⟨oc24, od24, .func (fnOf "_law_move" "_law_move" (defArgs (top 56)) (defBody (top 56)) (defScope (top 56)) .none kV24 dc24 pm24 an24 cd24 ct24), sl24⟩)
    (c24 : codeIn K cd24 "_law_move" = true)
    (k24 : keepIn K (.ref f24) = true)
    (a25 : nsIn K mainGlobals "_law_rig" = some (some (.ref f25)))
    (l25 : K.lookup f25 = some ⟨oc25, od25, .func (fnOf "_law_rig" "_law_rig" (defArgs (top 57)) (defBody (top 57)) (defScope (top 57)) .none kV25 dc25 pm25 an25 cd25 ct25), sl25⟩)
    (c25 : codeIn K cd25 "_law_rig" = true)
    (k25 : keepIn K (.ref f25) = true)
    (a26 : nsIn K mainGlobals "_law_said" = some (some (.ref f26)))
    (l26 : K.lookup f26 = some ⟨oc26, od26, .func (fnOf "_law_said" "_law_said" (defArgs (top 58)) (defBody (top 58)) (defScope (top 58)) .none kV26 dc26 pm26 an26 cd26 ct26), sl26⟩)
    (c26 : codeIn K cd26 "_law_said" = true)
    (k26 : keepIn K (.ref f26) = true)
    (a27 : nsIn K mainGlobals "_law_number" = some (some (.ref f27)))
    (l27 : K.lookup f27 = some ⟨oc27, od27, .func (fnOf "_law_number" "_law_number" (defArgs (top 59)) (defBody (top 59)) (defScope (top 59)) .none kV27 dc27 pm27 an27 cd27 ct27), sl27⟩)
    (c27 : codeIn K cd27 "_law_number" = true)
    (k27 : keepIn K (.ref f27) = true)
    (a28 : nsIn K mainGlobals "_law_run_due" = some (some (.ref f28)))
    (l28 : K.lookup f28 = some ⟨oc28, od28, .func (fnOf "_law_run_due" "_law_run_due" (defArgs (top 60)) (defBody (top 60)) (defScope (top 60)) .none kV28 dc28 pm28 an28 cd28 ct28), sl28⟩)
    (c28 : codeIn K cd28 "_law_run_due" = true)
    (k28 : keepIn K (.ref f28) = true)
    (a29 : nsIn K mainGlobals "_law_runs_right" = some (some (.ref f29)))
    (l29 : K.lookup f29 = some ⟨oc29, od29, .func (fnOf "_law_runs_right" "_law_runs_right" (defArgs (top 61)) (defBody (top 61)) (defScope (top 61)) .none kV29 dc29 pm29 an29 (.ref cA29) ct29), sl29⟩)
    (c29 : codeIn K (.ref cA29) "_law_runs_right" = true)
    (h29 : tabOf K cA29 = some cP29)
    (p29 : cP29 ∈ ts)
    (n29 : K.lookup cP29 = none)
    (k29 : keepIn K (.ref f29) = true)
    (a30 : nsIn K mainGlobals "law" = some (some (.ref f30)))
    (l30 : K.lookup f30 = some ⟨oc30, od30, .func (fnOf "law" "law" (defArgs (top 62)) (defBody (top 62)) (defScope (top 62)) .none kV30 dc30 pm30 an30 (.ref cA30) ct30), sl30⟩)
    (c30 : codeIn K (.ref cA30) "law" = true)
    (h30 : tabOf K cA30 = some cP30)
    (p30 : cP30 ∈ ts)
    (n30 : K.lookup cP30 = none)
    (k30 : keepIn K (.ref f30) = true)
    (b_is_move_texts : nsIn K mainGlobals "is_move_texts" = some (some (.ref f10)))
    (v29_30 : cP29 ≠ cP30)
    (z_all : nsIn K mainGlobals "all" = some none)
    (z_bool : nsIn K mainGlobals "bool" = some none)
    (z_enumerate : nsIn K mainGlobals "enumerate" = some none)
    (z_int : nsIn K mainGlobals "int" = some none)
    (z_isinstance : nsIn K mainGlobals "isinstance" = some none)
    (z_len : nsIn K mainGlobals "len" = some none)
    (z_list : nsIn K mainGlobals "list" = some none)
    (z_max : nsIn K mainGlobals "max" = some none)
    (z_min : nsIn K mainGlobals "min" = some none)
    (z_range : nsIn K mainGlobals "range" = some none)
    (z_repr : nsIn K mainGlobals "repr" = some none)
    (z_str : nsIn K mainGlobals "str" = some none)
    (z_tuple : nsIn K mainGlobals "tuple" = some none)
    (g_DASH : nsIn K mainGlobals "DASH" = some (some (.str "-" tk_DASH)))
    (g_FIGURES : nsIn K mainGlobals "FIGURES" = some (some (.str "0123456789" tk_FIGURES)))
    (g_FULL : nsIn K mainGlobals "FULL" = some (some (.str "full" tk_FULL)))
    (g_LEAST_LOADS : nsIn K mainGlobals "LEAST_LOADS" = some (some (.int 2 tk_LEAST_LOADS)))
    (g_LIMIT : nsIn K mainGlobals "LIMIT" = some (some (.str "limit" tk_LIMIT)))
    (g_LOADS : nsIn K mainGlobals "LOADS" = some (some (.str "loads" tk_LOADS)))
    (g_MOST_IDLE : nsIn K mainGlobals "MOST_IDLE" = some (some (.int 3 tk_MOST_IDLE)))
    (g_MOST_LIMIT : nsIn K mainGlobals "MOST_LIMIT" = some (some (.int 6 tk_MOST_LIMIT)))
    (g_MOST_LOAD : nsIn K mainGlobals "MOST_LOAD" = some (some (.int 3 tk_MOST_LOAD)))
    (g_MOST_LOADS : nsIn K mainGlobals "MOST_LOADS" = some (some (.int 6 tk_MOST_LOADS)))
    (g_MOST_MOVES_rigs : nsIn K mainGlobals "MOST_MOVES_rigs" = some (some (.int 10 tk_MOST_MOVES_rigs)))
    (g_MOST_MOVES_texts : nsIn K mainGlobals "MOST_MOVES_texts" = some (some (.int 10 tk_MOST_MOVES_texts)))
    (g_MOST_PART : nsIn K mainGlobals "MOST_PART" = some (some (.int 10000 tk_MOST_PART)))
    (g_MOST_RUN : nsIn K mainGlobals "MOST_RUN" = some (some (.int 1000 tk_MOST_RUN)))
    (g_MOST_STANDINGS : nsIn K mainGlobals "MOST_STANDINGS" = some (some (.int 6 tk_MOST_STANDINGS)))
    (g_MOST_VOLTS : nsIn K mainGlobals "MOST_VOLTS" = some (some (.int 1000 tk_MOST_VOLTS)))
    (g_MOVE : nsIn K mainGlobals "MOVE" = some (some (.str "move" tk_MOVE)))
    (g_MOVE_WORDS : nsIn K mainGlobals "MOVE_WORDS" = some (some (.int 5 tk_MOVE_WORDS)))
    (g_NONE : nsIn K mainGlobals "NONE" = some (some (.str "none" tk_NONE)))
    (g_SAG : nsIn K mainGlobals "SAG" = some (some (.str "sag" tk_SAG)))
    (e0a : nsIn K mainGlobals "BadRig" = some (some (.ref C0)))
    (e0l : clsIn K C0 = some oc0C)
    (e0g : findIn K (.ref C0) "__getattribute__" = some (some (.builtin "BaseException.__getattribute__")))
    (e0t : findIn K (.ref C0) "__getattr__" = some none)
    (e0x : subIn K (.ref C0) (.type "BaseException") = some true)
    (e0c : findIn K (.ref C0) "__class__" = some (some (.builtin "object.__class__")))
    (e0m : mroIn K C0 (.type "object") = some true)
    (e0d : hasDictIn K C0 = true)
    (e0n : findIn K (.ref C0) (xfN 0) = some none)
    (e1a : nsIn K mainGlobals "BadText" = some (some (.ref C1)))
    (e1l : clsIn K C1 = some oc1C)
    (e1g : findIn K (.ref C1) "__getattribute__" = some (some (.builtin "BaseException.__getattribute__")))
    (e1t : findIn K (.ref C1) "__getattr__" = some none)
    (e1x : subIn K (.ref C1) (.type "BaseException") = some true)
    (e1c : findIn K (.ref C1) "__class__" = some (some (.builtin "object.__class__")))
    (e1m : mroIn K C1 (.type "object") = some true)
    (e1d : hasDictIn K C1 = true)
    (e1n : findIn K (.ref C1) (xfN 1) = some none)
    (e3a : nsIn K mainGlobals "BadRun" = some (some (.ref C3)))
    (e3l : clsIn K C3 = some oc3C)
    (e3g : findIn K (.ref C3) "__getattribute__" = some (some (.builtin "BaseException.__getattribute__")))
    (e3t : findIn K (.ref C3) "__getattr__" = some none)
    (e3x : subIn K (.ref C3) (.type "BaseException") = some true)
    (e3c : findIn K (.ref C3) "__class__" = some (some (.builtin "object.__class__")))
    (e3m : mroIn K C3 (.type "object") = some true)
    (e3d : hasDictIn K C3 = true)
    (e3n : findIn K (.ref C3) (xfN 3) = some none)
    (e6a : nsIn K mainGlobals "Missing" = some (some (.ref C6)))
    (e6l : clsIn K C6 = some oc6C)
    (e6g : findIn K (.ref C6) "__getattribute__" = some (some (.builtin "BaseException.__getattribute__")))
    (e6t : findIn K (.ref C6) "__getattr__" = some none)
    (e6x : subIn K (.ref C6) (.type "BaseException") = some true)
    (e6c : findIn K (.ref C6) "__class__" = some (some (.builtin "object.__class__")))
    (e6m : mroIn K C6 (.type "object") = some true)
    (e6d : hasDictIn K C6 = true)
    (e6n : findIn K (.ref C6) (xfN 6) = some none)
    (e8a : nsIn K mainGlobals "RigError" = some (some (.ref C8)))
    (e8l : clsIn K C8 = some oc8C)
    (e8g : findIn K (.ref C8) "__getattribute__" = some (some (.builtin "BaseException.__getattribute__")))
    (e8t : findIn K (.ref C8) "__getattr__" = some none)
    (e8x : subIn K (.ref C8) (.type "BaseException") = some true)
    (e8c : findIn K (.ref C8) "__class__" = some (some (.builtin "object.__class__")))
    (e8m : mroIn K C8 (.type "object") = some true)
    (e8d : hasDictIn K C8 = true)
    (hn : specialIn K (.builtin "object.__class__") "__get__" = some (some (.builtin "getset_descriptor.__get__")))
    (tkc : takesIn K (.builtin "object.__class__") = some true)
    (y0_0 : kitOne K (.ref C0) (.ref C0) = some true)
    (y0_1 : kitOne K (.ref C0) (.ref C1) = some false)
    (y0_3 : kitOne K (.ref C0) (.ref C3) = some false)
    (y0_6 : kitOne K (.ref C0) (.ref C6) = some false)
    (y0_8 : kitOne K (.ref C0) (.ref C8) = some true)
    (y1_0 : kitOne K (.ref C1) (.ref C0) = some false)
    (y1_1 : kitOne K (.ref C1) (.ref C1) = some true)
    (y1_3 : kitOne K (.ref C1) (.ref C3) = some false)
    (y1_6 : kitOne K (.ref C1) (.ref C6) = some false)
    (y1_8 : kitOne K (.ref C1) (.ref C8) = some true)
    (y3_0 : kitOne K (.ref C3) (.ref C0) = some false)
    (y3_1 : kitOne K (.ref C3) (.ref C1) = some false)
    (y3_3 : kitOne K (.ref C3) (.ref C3) = some true)
    (y3_6 : kitOne K (.ref C3) (.ref C6) = some false)
    (y3_8 : kitOne K (.ref C3) (.ref C8) = some true)
    (y6_0 : kitOne K (.ref C6) (.ref C0) = some false)
    (y6_1 : kitOne K (.ref C6) (.ref C1) = some false)
    (y6_3 : kitOne K (.ref C6) (.ref C3) = some false)
    (y6_6 : kitOne K (.ref C6) (.ref C6) = some true)
    (y6_8 : kitOne K (.ref C6) (.ref C8) = some false)
    (y8_0 : kitOne K (.ref C8) (.ref C0) = some false)
    (y8_1 : kitOne K (.ref C8) (.ref C1) = some false)
    (y8_3 : kitOne K (.ref C8) (.ref C3) = some false)
    (y8_6 : kitOne K (.ref C8) (.ref C6) = some false)
    (y8_8 : kitOne K (.ref C8) (.ref C8) = some true)
    (x0_6 : exmOne K (.ref C0) (.ref C6) = some false)
    (x1_6 : exmOne K (.ref C1) (.ref C6) = some false)
    (x3_6 : exmOne K (.ref C3) (.ref C6) = some false)
    (x6_6 : exmOne K (.ref C6) (.ref C6) = some true)
    (x8_6 : exmOne K (.ref C8) (.ref C6) = some false)
    (x0_8 : exmOne K (.ref C0) (.ref C8) = some true)
    (x1_8 : exmOne K (.ref C1) (.ref C8) = some true)
    (x3_8 : exmOne K (.ref C3) (.ref C8) = some true)
    (x6_8 : exmOne K (.ref C6) (.ref C8) = some false)
    (x8_8 : exmOne K (.ref C8) (.ref C8) = some true)
    (r0L : K.lookup C0 = some (excClassObj nm0 qn0 C0 N0 bs0 [.ref C8, .type "ValueError", .type "Exception", .type "BaseException", .type "object"] true sn0 sub0 ab0 col0 dd0 m0_0 m1_0 m2_0 m3_0 m5_0 "ValueError.__new__"))
    (r0sa : findIn K (.ref C0) "__setattr__" = some (some (.builtin "object.__setattr__")))
    (r0iC : findIn K (.ref C0) "__init__" = some (some (.ref fI0)))
    (r0tC : typeIn K (.ref fI0) = some (.type "function"))
    (r0kC : keepIn K (.ref C0) = true)
    (r0ty : typeIn K (.ref C0) = some (.type "type"))
    (r0hB : subIn K (.ref C0) (.type "ValueError") = some true)
    (r0su : mroIn K C0 (.ref C0) = some true)
    (r0si : ks_superIn K C0 C0 "__init__" = some (some (.builtin "ValueError.__init__")))
    (r0fn : K.lookup fI0 = some ⟨ocI0, odI0, .func (ksFn "__init__" qI0 (xA "place" r1_0 r2_0) (xB "place" msg0 j0 pa0 pb0 pc0 pd0 pe0 pf0 qa0 qb0 qc0 qd0) (xS "place") .none .none dcI0 pmI0 anI0 (.ref cda0) ctI0 cc0), slI0⟩)
    (r0cI : codeIn K (.ref cda0) qI0 = true)
    (r0vs : K.lookup cda0 = some ⟨ccl0, cdd0, .fields vs0, ccs0⟩)
    (r0cc : K.lookup cc0 = some ⟨clc0, cld0, .cell (some (.ref C0)), csl0⟩)
    (r1L : K.lookup C1 = some (excClassObj nm1 qn1 C1 N1 bs1 [.ref C8, .type "ValueError", .type "Exception", .type "BaseException", .type "object"] true sn1 sub1 ab1 col1 dd1 m0_1 m1_1 m2_1 m3_1 m5_1 "ValueError.__new__"))
    (r1sa : findIn K (.ref C1) "__setattr__" = some (some (.builtin "object.__setattr__")))
    (r1iC : findIn K (.ref C1) "__init__" = some (some (.ref fI1)))
    (r1tC : typeIn K (.ref fI1) = some (.type "function"))
    (r1kC : keepIn K (.ref C1) = true)
    (r1ty : typeIn K (.ref C1) = some (.type "type"))
    (r1hB : subIn K (.ref C1) (.type "ValueError") = some true)
    (r1su : mroIn K C1 (.ref C1) = some true)
    (r1si : ks_superIn K C1 C1 "__init__" = some (some (.builtin "ValueError.__init__")))
    (r1fn : K.lookup fI1 = some ⟨ocI1, odI1, .func (ksFn "__init__" qI1 (xA "place" r1_1 r2_1) (xB "place" msg1 j1 pa1 pb1 pc1 pd1 pe1 pf1 qa1 qb1 qc1 qd1) (xS "place") .none .none dcI1 pmI1 anI1 (.ref cda1) ctI1 cc1), slI1⟩)
    (r1cI : codeIn K (.ref cda1) qI1 = true)
    (r1vs : K.lookup cda1 = some ⟨ccl1, cdd1, .fields vs1, ccs1⟩)
    (r1cc : K.lookup cc1 = some ⟨clc1, cld1, .cell (some (.ref C1)), csl1⟩)
    (r3L : K.lookup C3 = some (excClassObj nm3 qn3 C3 N3 bs3 [.ref C8, .type "ValueError", .type "Exception", .type "BaseException", .type "object"] true sn3 sub3 ab3 col3 dd3 m0_3 m1_3 m2_3 m3_3 m5_3 "ValueError.__new__"))
    (r3sa : findIn K (.ref C3) "__setattr__" = some (some (.builtin "object.__setattr__")))
    (r3iC : findIn K (.ref C3) "__init__" = some (some (.ref fI3)))
    (r3tC : typeIn K (.ref fI3) = some (.type "function"))
    (r3kC : keepIn K (.ref C3) = true)
    (r3ty : typeIn K (.ref C3) = some (.type "type"))
    (r3hB : subIn K (.ref C3) (.type "ValueError") = some true)
    (r3su : mroIn K C3 (.ref C3) = some true)
    (r3si : ks_superIn K C3 C3 "__init__" = some (some (.builtin "ValueError.__init__")))
    (r3fn : K.lookup fI3 = some ⟨ocI3, odI3, .func (ksFn "__init__" qI3 (xA "at" r1_3 r2_3) (xB "at" msg3 j3 pa3 pb3 pc3 pd3 pe3 pf3 qa3 qb3 qc3 qd3) (xS "at") .none .none dcI3 pmI3 anI3 (.ref cda3) ctI3 cc3), slI3⟩)
    (r3cI : codeIn K (.ref cda3) qI3 = true)
    (r3vs : K.lookup cda3 = some ⟨ccl3, cdd3, .fields vs3, ccs3⟩)
    (r3cc : K.lookup cc3 = some ⟨clc3, cld3, .cell (some (.ref C3)), csl3⟩)
    (sup : nsIn K mainGlobals "super" = some none)
    (opq : nsIn K cStatics "thirdparty.any" = some none)
    (r0v2 : vs0[2]? = some (.str file0 tf0))
    (r0fi : ((P.main.file : Str) == file0) = true)
    (r0ev : ∀ env : Env, ∃ pl, eval (.Call (.Attribute (.Call (.Name "super" pa0) [] [] pb0) "__init__" pc0) [.Constant (.str msg0) j0 pd0] [] pe0) env = (do
      let ov ← attributeBase (.Call (.Name "super" pa0) [] [] pb0) "__init__" env (eval (.Call (.Name "super" pa0) [] [] pb0) env)
      standAt pc0.atName
      let (f, first) ← holding [ov] (getMethod ov "__init__" pl)
      callWith pe0 f first (backTo pe0 (starEach [.Constant (.str msg0) j0 pd0] env)) []))
    (r1v2 : vs1[2]? = some (.str file1 tf1))
    (r1fi : ((P.main.file : Str) == file1) = true)
    (r1ev : ∀ env : Env, ∃ pl, eval (.Call (.Attribute (.Call (.Name "super" pa1) [] [] pb1) "__init__" pc1) [.Constant (.str msg1) j1 pd1] [] pe1) env = (do
      let ov ← attributeBase (.Call (.Name "super" pa1) [] [] pb1) "__init__" env (eval (.Call (.Name "super" pa1) [] [] pb1) env)
      standAt pc1.atName
      let (f, first) ← holding [ov] (getMethod ov "__init__" pl)
      callWith pe1 f first (backTo pe1 (starEach [.Constant (.str msg1) j1 pd1] env)) []))
    (r3v2 : vs3[2]? = some (.str file3 tf3))
    (r3fi : ((P.main.file : Str) == file3) = true)
    (r3ev : ∀ env : Env, ∃ pl, eval (.Call (.Attribute (.Call (.Name "super" pa3) [] [] pb3) "__init__" pc3) [.Constant (.str msg3) j3 pd3] [] pe3) env = (do
      let ov ← attributeBase (.Call (.Name "super" pa3) [] [] pb3) "__init__" env (eval (.Call (.Name "super" pa3) [] [] pb3) env)
      standAt pc3.atName
      let (f, first) ← holding [ov] (getMethod ov "__init__" pl)
      callWith pe3 f first (backTo pe3 (starEach [.Constant (.str msg3) j3 pd3] env)) []))
    (ptop : (P.main.scope.names.lookup ("super" : Str)).isSome = false)
    : ∃ (G0 : GT) (cs : List (Addr × Addr)), (∀ p ∈ cs, p.2 ∈ ts ∧ K.lookup p.2 = none) ∧ (∀ p ∈ cs, tabOf K p.1 = some p.2) ∧ (∀ p ∈ G0.t, p.1 ∈ cs.map (·.2)) ∧ ∀ (a : Addr) (m : Nat) (base : Heap), K.In base → base.Ns mainGlobals mg → SmAt base → (∀ p ∈ cs, LamX.TabB base mg p.1 p.2) → Callee (lawG K G0 a m) P w K mg base 29 "law" 1 den_law [] := by
  refine ⟨exG C0 C1 C3 C6 C8 f7 f8 cP29 cP30, [(cA29, cP29), (cA30, cP30)], fun p hp => ?_, fun p hp => ?_, fun p hp => ?_, fun a m base _ _ SM TBS => ?_⟩
  · simp only [List.mem_cons, List.not_mem_nil, or_false] at hp
    rcases hp with rfl | rfl
    · exact ⟨p29, n29⟩
    · exact ⟨p30, n30⟩
  · simp only [List.mem_cons, List.not_mem_nil, or_false] at hp
    rcases hp with rfl | rfl
    · exact h29
    · exact h30
  · have hp : p ∈ ([(cP29, "_law_runs_right" ++ ".<locals>." ++ "<lambda>"), (cP30, "law" ++ ".<locals>." ++ "<lambda>")] : List (Addr × Str)) := hp
    simp only [List.mem_cons, List.not_mem_nil, or_false] at hp
    rcases hp with rfl | rfl <;> simp
  have B : Bl mg := ⟨trivial, mg_none_of X Gn z_all, mg_none_of X Gn z_bool, mg_none_of X Gn z_enumerate, mg_none_of X Gn z_int, mg_none_of X Gn z_isinstance, mg_none_of X Gn z_len, mg_none_of X Gn z_list, mg_none_of X Gn z_max, mg_none_of X Gn z_min, mg_none_of X Gn z_range, mg_none_of X Gn z_repr, mg_none_of X Gn z_str, mg_none_of X Gn z_tuple⟩
  have C : Cs (lawG K (exG C0 C1 C3 C6 C8 f7 f8 cP29 cP30) a m) mg := ⟨trivial, ⟨⟨_, .str "-", mg_of X Gn g_DASH, ⟨_, rfl⟩, fun _ _ => by rw [Rep]⟩⟩, ⟨⟨_, .str "0123456789", mg_of X Gn g_FIGURES, ⟨_, rfl⟩, fun _ _ => by rw [Rep]⟩⟩, ⟨⟨_, .str "full", mg_of X Gn g_FULL, ⟨_, rfl⟩, fun _ _ => by rw [Rep]⟩⟩, ⟨⟨_, .int 2, mg_of X Gn g_LEAST_LOADS, ⟨_, rfl⟩, fun _ _ => by rw [Rep]⟩⟩, ⟨⟨_, .str "limit", mg_of X Gn g_LIMIT, ⟨_, rfl⟩, fun _ _ => by rw [Rep]⟩⟩, ⟨⟨_, .str "loads", mg_of X Gn g_LOADS, ⟨_, rfl⟩, fun _ _ => by rw [Rep]⟩⟩, ⟨⟨_, .int 3, mg_of X Gn g_MOST_IDLE, ⟨_, rfl⟩, fun _ _ => by rw [Rep]⟩⟩, ⟨⟨_, .int 6, mg_of X Gn g_MOST_LIMIT, ⟨_, rfl⟩, fun _ _ => by rw [Rep]⟩⟩, ⟨⟨_, .int 3, mg_of X Gn g_MOST_LOAD, ⟨_, rfl⟩, fun _ _ => by rw [Rep]⟩⟩, ⟨⟨_, .int 6, mg_of X Gn g_MOST_LOADS, ⟨_, rfl⟩, fun _ _ => by rw [Rep]⟩⟩, ⟨⟨_, .int 10, mg_of X Gn g_MOST_MOVES_rigs, ⟨_, rfl⟩, fun _ _ => by rw [Rep]⟩⟩, ⟨⟨_, .int 10, mg_of X Gn g_MOST_MOVES_texts, ⟨_, rfl⟩, fun _ _ => by rw [Rep]⟩⟩, ⟨⟨_, .int 10000, mg_of X Gn g_MOST_PART, ⟨_, rfl⟩, fun _ _ => by rw [Rep]⟩⟩, ⟨⟨_, .int 1000, mg_of X Gn g_MOST_RUN, ⟨_, rfl⟩, fun _ _ => by rw [Rep]⟩⟩, ⟨⟨_, .int 6, mg_of X Gn g_MOST_STANDINGS, ⟨_, rfl⟩, fun _ _ => by rw [Rep]⟩⟩, ⟨⟨_, .int 1000, mg_of X Gn g_MOST_VOLTS, ⟨_, rfl⟩, fun _ _ => by rw [Rep]⟩⟩, ⟨⟨_, .str "move", mg_of X Gn g_MOVE, ⟨_, rfl⟩, fun _ _ => by rw [Rep]⟩⟩, ⟨⟨_, .int 5, mg_of X Gn g_MOVE_WORDS, ⟨_, rfl⟩, fun _ _ => by rw [Rep]⟩⟩, ⟨⟨_, .str "none", mg_of X Gn g_NONE, ⟨_, rfl⟩, fun _ _ => by rw [Rep]⟩⟩, ⟨⟨_, .str "sag", mg_of X Gn g_SAG, ⟨_, rfl⟩, fun _ _ => by rw [Rep]⟩⟩⟩
  have SC : ScrC (lawG K (exG C0 C1 C3 C6 C8 f7 f8 cP29 cP30) a m) K := lawG_scr
  have XI : ∀ k ∈ ([0, 1, 3, 6, 8] : List Nat), XiT (lawG K (exG C0 C1 C3 C6 C8 f7 f8 cP29 cP30) a m) K k := by
    intro k hk
    simp only [List.mem_cons, List.not_mem_nil, or_false] at hk
    rcases hk with rfl | rfl | rfl | rfl | rfl
    · exact ⟨by show (clsIn K C0).isSome = true; rw [e0l]; rfl, e0g, e0t, e0x, e0c, hn, tkc, e0m⟩
    · exact ⟨by show (clsIn K C1).isSome = true; rw [e1l]; rfl, e1g, e1t, e1x, e1c, hn, tkc, e1m⟩
    · exact ⟨by show (clsIn K C3).isSome = true; rw [e3l]; rfl, e3g, e3t, e3x, e3c, hn, tkc, e3m⟩
    · exact ⟨by show (clsIn K C6).isSome = true; rw [e6l]; rfl, e6g, e6t, e6x, e6c, hn, tkc, e6m⟩
    · exact ⟨by show (clsIn K C8).isSome = true; rw [e8l]; rfl, e8g, e8t, e8x, e8c, hn, tkc, e8m⟩
  have XS : ∀ k ∈ ([0, 1, 3, 6] : List Nat), XsT (lawG K (exG C0 C1 C3 C6 C8 f7 f8 cP29 cP30) a m) K k := by
    intro k hk
    simp only [List.mem_cons, List.not_mem_nil, or_false] at hk
    rcases hk with rfl | rfl | rfl | rfl
    · exact ⟨e0d, e0n, e0g, e0t, e0x⟩
    · exact ⟨e1d, e1n, e1g, e1t, e1x⟩
    · exact ⟨e3d, e3n, e3g, e3t, e3x⟩
    · exact ⟨e6d, e6n, e6g, e6t, e6x⟩
  have XK0 : ∀ k y, isX [0, 1, 3, 6, 8] 0 k = some y → kitOne K (.ref ((lawG K (exG C0 C1 C3 C6 C8 f7 f8 cP29 cP30) a m) k)) (.ref ((lawG K (exG C0 C1 C3 C6 C8 f7 f8 cP29 cP30) a m) 0)) = some y := by
    intro k y hy
    unfold isX at hy
    split at hy
    · cases hy
    · rename_i hk
      replace hk := of_decide_eq_true hk
      simp only [List.mem_cons, List.not_mem_nil, or_false] at hk
      rcases hk with rfl | rfl | rfl | rfl | rfl
      · cases hy; exact y0_0
      · cases hy; exact y1_0
      · cases hy; exact y3_0
      · cases hy; exact y6_0
      · cases hy; exact y8_0
  have XK1 : ∀ k y, isX [0, 1, 3, 6, 8] 1 k = some y → kitOne K (.ref ((lawG K (exG C0 C1 C3 C6 C8 f7 f8 cP29 cP30) a m) k)) (.ref ((lawG K (exG C0 C1 C3 C6 C8 f7 f8 cP29 cP30) a m) 1)) = some y := by
    intro k y hy
    unfold isX at hy
    split at hy
    · cases hy
    · rename_i hk
      replace hk := of_decide_eq_true hk
      simp only [List.mem_cons, List.not_mem_nil, or_false] at hk
      rcases hk with rfl | rfl | rfl | rfl | rfl
      · cases hy; exact y0_1
      · cases hy; exact y1_1
      · cases hy; exact y3_1
      · cases hy; exact y6_1
      · cases hy; exact y8_1
  have XK3 : ∀ k y, isX [0, 1, 3, 6, 8] 3 k = some y → kitOne K (.ref ((lawG K (exG C0 C1 C3 C6 C8 f7 f8 cP29 cP30) a m) k)) (.ref ((lawG K (exG C0 C1 C3 C6 C8 f7 f8 cP29 cP30) a m) 3)) = some y := by
    intro k y hy
    unfold isX at hy
    split at hy
    · cases hy
    · rename_i hk
      replace hk := of_decide_eq_true hk
      simp only [List.mem_cons, List.not_mem_nil, or_false] at hk
      rcases hk with rfl | rfl | rfl | rfl | rfl
      · cases hy; exact y0_3
      · cases hy; exact y1_3
      · cases hy; exact y3_3
      · cases hy; exact y6_3
      · cases hy; exact y8_3
  have XK6 : ∀ k y, isX [0, 1, 3, 6, 8] 6 k = some y → kitOne K (.ref ((lawG K (exG C0 C1 C3 C6 C8 f7 f8 cP29 cP30) a m) k)) (.ref ((lawG K (exG C0 C1 C3 C6 C8 f7 f8 cP29 cP30) a m) 6)) = some y := by
    intro k y hy
    unfold isX at hy
    split at hy
    · cases hy
    · rename_i hk
      replace hk := of_decide_eq_true hk
      simp only [List.mem_cons, List.not_mem_nil, or_false] at hk
      rcases hk with rfl | rfl | rfl | rfl | rfl
      · cases hy; exact y0_6
      · cases hy; exact y1_6
      · cases hy; exact y3_6
      · cases hy; exact y6_6
      · cases hy; exact y8_6
  have XK8 : ∀ k y, isX [0, 1, 3, 6, 8] 8 k = some y → kitOne K (.ref ((lawG K (exG C0 C1 C3 C6 C8 f7 f8 cP29 cP30) a m) k)) (.ref ((lawG K (exG C0 C1 C3 C6 C8 f7 f8 cP29 cP30) a m) 8)) = some y := by
    intro k y hy
    unfold isX at hy
    split at hy
    · cases hy
    · rename_i hk
      replace hk := of_decide_eq_true hk
      simp only [List.mem_cons, List.not_mem_nil, or_false] at hk
      rcases hk with rfl | rfl | rfl | rfl | rfl
      · cases hy; exact y0_8
      · cases hy; exact y1_8
      · cases hy; exact y3_8
      · cases hy; exact y6_8
      · cases hy; exact y8_8
  have XM : ∀ k y, isX [0, 1, 3, 6, 8] 8 k = some y → exmOne K (.ref ((lawG K (exG C0 C1 C3 C6 C8 f7 f8 cP29 cP30) a m) k)) (.ref ((lawG K (exG C0 C1 C3 C6 C8 f7 f8 cP29 cP30) a m) 8)) = some y := by
    intro k y hy
    unfold isX at hy
    split at hy
    · cases hy
    · rename_i hk
      replace hk := of_decide_eq_true hk
      simp only [List.mem_cons, List.not_mem_nil, or_false] at hk
      rcases hk with rfl | rfl | rfl | rfl | rfl
      · cases hy; exact x0_8
      · cases hy; exact x1_8
      · cases hy; exact x3_8
      · cases hy; exact x6_8
      · cases hy; exact x8_8
  have CT6 : CatT [0, 1, 3, 6, 8] (lawG K (exG C0 C1 C3 C6 C8 f7 f8 cP29 cP30) a m) K 6 := ⟨by
    intro k y hy
    unfold isX at hy
    split at hy
    · cases hy
    · rename_i hk
      replace hk := of_decide_eq_true hk
      simp only [List.mem_cons, List.not_mem_nil, or_false] at hk
      rcases hk with rfl | rfl | rfl | rfl | rfl
      · cases hy; exact x0_6
      · cases hy; exact x1_6
      · cases hy; exact x3_6
      · cases hy; exact x6_6
      · cases hy; exact x8_6⟩
  have XC : ∀ j ∈ ([0, 1, 3, 6, 8] : List Nat), XcT [0, 1, 3, 6, 8] (lawG K (exG C0 C1 C3 C6 C8 f7 f8 cP29 cP30) a m) K j := by
    intro k hk
    simp only [List.mem_cons, List.not_mem_nil, or_false] at hk
    rcases hk with rfl | rfl | rfl | rfl | rfl
    · exact ⟨XI, XK0⟩
    · exact ⟨XI, XK1⟩
    · exact ⟨XI, XK3⟩
    · exact ⟨XI, XK6⟩
    · exact ⟨XI, XK8⟩
  have XF : ExF [0, 1, 3, 6, 8] [0, 1, 3, 6] (lawG K (exG C0 C1 C3 C6 C8 f7 f8 cP29 cP30) a m) P K mg := ⟨XS, XC, ⟨XM⟩⟩
  have T0 : ∃ fI B n i bm, ExT P K ((lawG K (exG C0 C1 C3 C6 C8 f7 f8 cP29 cP30) a m) 0) fI (xfN 0) B n i bm := ⟨fI0, "ValueError", "ValueError.__new__", "ValueError.__init__", _, {
    XB := exB_VE, cls := ⟨_, _, _, _, _, _, _, _, _, _, _, _, _, _, _, r0L, .own .base⟩, sa := r0sa, ga := e0g, gg := e0t, noN := e0n, iC := r0iC, tC := r0tC, kC := r0kC, exC := e0x, tyC := r0ty, hdC := e0d, hB := r0hB, sub := r0su, sup := sup, opq := opq, sin := r0si, top := ptop,
    s1 := rfl, s2 := rfl, s3 := rfl, s4 := rfl, v1 := fun _ _ => rfl, v2 := fun _ _ => rfl, dbg := by decide, bnd := fun _ _ _ _ _ _ _ _ _ _ _ _ => rfl, nd := by decide, lc := fun _ _ x hx => by
      simp only [List.mem_cons, List.not_mem_nil, or_false] at hx
      rcases hx with rfl | rfl <;> rfl
    fn := ⟨_, _, _, _, _, _, _, _, _, _, _, _, _, _, _, _, _, _, _, _, _, _, _, _, _, _, _, _, _, _, _, _, _, r0fn, r0cI, r0vs, r0v2, r0fi, r0ev, r0cc⟩ }⟩
  have T1 : ∃ fI B n i bm, ExT P K ((lawG K (exG C0 C1 C3 C6 C8 f7 f8 cP29 cP30) a m) 1) fI (xfN 1) B n i bm := ⟨fI1, "ValueError", "ValueError.__new__", "ValueError.__init__", _, {
    XB := exB_VE, cls := ⟨_, _, _, _, _, _, _, _, _, _, _, _, _, _, _, r1L, .own .base⟩, sa := r1sa, ga := e1g, gg := e1t, noN := e1n, iC := r1iC, tC := r1tC, kC := r1kC, exC := e1x, tyC := r1ty, hdC := e1d, hB := r1hB, sub := r1su, sup := sup, opq := opq, sin := r1si, top := ptop,
    s1 := rfl, s2 := rfl, s3 := rfl, s4 := rfl, v1 := fun _ _ => rfl, v2 := fun _ _ => rfl, dbg := by decide, bnd := fun _ _ _ _ _ _ _ _ _ _ _ _ => rfl, nd := by decide, lc := fun _ _ x hx => by
      simp only [List.mem_cons, List.not_mem_nil, or_false] at hx
      rcases hx with rfl | rfl <;> rfl
    fn := ⟨_, _, _, _, _, _, _, _, _, _, _, _, _, _, _, _, _, _, _, _, _, _, _, _, _, _, _, _, _, _, _, _, _, r1fn, r1cI, r1vs, r1v2, r1fi, r1ev, r1cc⟩ }⟩
  have T3 : ∃ fI B n i bm, ExT P K ((lawG K (exG C0 C1 C3 C6 C8 f7 f8 cP29 cP30) a m) 3) fI (xfN 3) B n i bm := ⟨fI3, "ValueError", "ValueError.__new__", "ValueError.__init__", _, {
    XB := exB_VE, cls := ⟨_, _, _, _, _, _, _, _, _, _, _, _, _, _, _, r3L, .own .base⟩, sa := r3sa, ga := e3g, gg := e3t, noN := e3n, iC := r3iC, tC := r3tC, kC := r3kC, exC := e3x, tyC := r3ty, hdC := e3d, hB := r3hB, sub := r3su, sup := sup, opq := opq, sin := r3si, top := ptop,
    s1 := rfl, s2 := rfl, s3 := rfl, s4 := rfl, v1 := fun _ _ => rfl, v2 := fun _ _ => rfl, dbg := by decide, bnd := fun _ _ _ _ _ _ _ _ _ _ _ _ => rfl, nd := by decide, lc := fun _ _ x hx => by
      simp only [List.mem_cons, List.not_mem_nil, or_false] at hx
      rcases hx with rfl | rfl <;> rfl
    fn := ⟨_, _, _, _, _, _, _, _, _, _, _, _, _, _, _, _, _, _, _, _, _, _, _, _, _, _, _, _, _, _, _, _, _, r3fn, r3cI, r3vs, r3v2, r3fi, r3ev, r3cc⟩ }⟩
  have k_is_whole := ok_is_whole (P := P) (w := w) (G := (lawG K (exG C0 C1 C3 C6 C8 f7 f8 cP29 cP30) a m)) (base := base) B C SC XF SM (mg_of X Gn a0) (fun_mk (st := top 14) l0 c0 k0)
  have k_common := ok_common (P := P) (w := w) (G := (lawG K (exG C0 C1 C3 C6 C8 f7 f8 cP29 cP30) a m)) (base := base) B C SC XF SM (mg_of X Gn a1) (fun_mk (st := top 15) l1 c1 k1)
  have k_is_fraction := ok_is_fraction (P := P) (w := w) (G := (lawG K (exG C0 C1 C3 C6 C8 f7 f8 cP29 cP30) a m)) (base := base) B C SC XF SM k_is_whole k_common (mg_of X Gn a2) (fun_mk (st := top 16) l2 c2 k2)
  have k_are_loads := ok_are_loads (P := P) (w := w) (G := (lawG K (exG C0 C1 C3 C6 C8 f7 f8 cP29 cP30) a m)) (base := base) B C SC XF SM k_is_whole (mg_of X Gn a3) (fun_mk (st := top 17) l3 c3 k3)
  have k_is_move_rigs := ok_is_move_rigs (P := P) (w := w) (G := (lawG K (exG C0 C1 C3 C6 C8 f7 f8 cP29 cP30) a m)) (base := base) B C SC XF SM k_is_whole (mg_of X Gn a4) (fun_mk (st := top 18) l4 c4 k4)
  have k_rig_fault := ok_rig_fault (P := P) (w := w) (G := (lawG K (exG C0 C1 C3 C6 C8 f7 f8 cP29 cP30) a m)) (base := base) B C SC XF SM k_are_loads k_is_move_rigs k_is_whole k_is_fraction (mg_of X Gn a5) (fun_mk (st := top 20) l5 c5 k5)
  have k_need_rig := ok_need_rig (P := P) (w := w) (G := (lawG K (exG C0 C1 C3 C6 C8 f7 f8 cP29 cP30) a m)) (base := base) B C SC XF SM k_rig_fault (mg_of X Gn e0a) T0 (mg_of X Gn a6) (fun_mk (st := top 21) l6 c6 k6)
  have k_number_in := ok_number_in (P := P) (w := w) (G := (lawG K (exG C0 C1 C3 C6 C8 f7 f8 cP29 cP30) a m)) (base := base) B C SC XF SM (mg_of X Gn a7) ⟨⟨_, _, _, _, _, _, _, _, _, _, rfl, l7, c7, .inr ⟨by simp, dT7, _, [.int 5 dTk7_0], _, rfl, d7, rfl, .cons ⟨_, rfl⟩ (.nil)⟩, .inl rfl⟩, k7⟩
  have k_fraction_in := ok_fraction_in (P := P) (w := w) (G := (lawG K (exG C0 C1 C3 C6 C8 f7 f8 cP29 cP30) a m)) (base := base) B C SC XF SM k_number_in (mg_of X Gn a8) (fun_mk (st := top 38) l8 c8 k8)
  have k_rig_text := ok_rig_text (P := P) (w := w) (G := (lawG K (exG C0 C1 C3 C6 C8 f7 f8 cP29 cP30) a m)) (base := base) B C SC XF SM k_need_rig (mg_of X Gn a9) (fun_mk (st := top 39) l9 c9 k9)
  have k_is_move := ok_is_move (P := P) (w := w) (G := (lawG K (exG C0 C1 C3 C6 C8 f7 f8 cP29 cP30) a m)) (base := base) B C SC XF SM k_is_whole (mg_of X Gn a10) (fun_mk (st := top 40) l10 c10 k10)
  have k_is_move_texts := callee_ren k_is_move (mg_of X Gn a10) (mg_of X Gn b_is_move_texts)
  have k_run_text := ok_run_text (P := P) (w := w) (G := (lawG K (exG C0 C1 C3 C6 C8 f7 f8 cP29 cP30) a m)) (base := base) B C SC XF SM k_need_rig k_is_move_texts (mg_of X Gn e3a) T3 (mg_of X Gn a11) (fun_mk (st := top 42) l11 c11 k11)
  have k_need_words := ok_need_words (P := P) (w := w) (G := (lawG K (exG C0 C1 C3 C6 C8 f7 f8 cP29 cP30) a m)) (base := base) B C SC XF SM (mg_of X Gn e1a) T1 (mg_of X Gn a12) (fun_mk (st := top 43) l12 c12 k12)
  have k_words_at := ok_words_at (P := P) (w := w) (G := (lawG K (exG C0 C1 C3 C6 C8 f7 f8 cP29 cP30) a m)) (base := base) B C SC XF SM (mg_of X Gn e1a) T1 (mg_of X Gn a13) (fun_mk (st := top 44) l13 c13 k13)
  have k_need_count := ok_need_count (P := P) (w := w) (G := (lawG K (exG C0 C1 C3 C6 C8 f7 f8 cP29 cP30) a m)) (base := base) B C SC XF SM (mg_of X Gn e1a) T1 (mg_of X Gn a14) (fun_mk (st := top 45) l14 c14 k14)
  have k_read_loads := ok_read_loads (P := P) (w := w) (G := (lawG K (exG C0 C1 C3 C6 C8 f7 f8 cP29 cP30) a m)) (base := base) B C SC XF SM k_number_in k_need_count (mg_of X Gn e1a) T1 (mg_of X Gn a15) (fun_mk (st := top 46) l15 c15 k15)
  have k_read_move := ok_read_move (P := P) (w := w) (G := (lawG K (exG C0 C1 C3 C6 C8 f7 f8 cP29 cP30) a m)) (base := base) B C SC XF SM k_number_in k_need_count (mg_of X Gn e1a) T1 (mg_of X Gn a16) (fun_mk (st := top 47) l16 c16 k16)
  have FT : FnT (lawG K (exG C0 C1 C3 C6 C8 f7 f8 cP29 cP30) a m) P w K mg base 2 1 tblV := ⟨fun j F dds h => by
    match j, h with
    | 0, h =>
      cases h
      obtain ⟨f, fd, us, dvs, ps, h1, h2, h3, h4, h5, h6⟩ := k_number_in.ex
      rw [mg_of X Gn a7] at h1
      cases h1
      exact ⟨fd, us, dvs, ps, h2, h3, h4, h5.mono (by decide), h6⟩
    | 1, h =>
      cases h
      obtain ⟨f, fd, us, dvs, ps, h1, h2, h3, h4, h5, h6⟩ := k_fraction_in.ex
      rw [mg_of X Gn a8] at h1
      cases h1
      exact ⟨fd, us, dvs, ps, h2, h3, h4, h5.mono (by decide), h6⟩
    | j + 2, h => cases h⟩
  have k_read_one := ok_read_one (P := P) (w := w) (G := (lawG K (exG C0 C1 C3 C6 C8 f7 f8 cP29 cP30) a m)) (base := base) B C SC XF SM k_words_at k_need_count (mg_of X Gn e1a) T1 FT (mg_of X Gn a17) (fun_mk (st := top 48) l17 c17 k17)
  have k_read_rig := ok_read_rig (P := P) (w := w) (G := (lawG K (exG C0 C1 C3 C6 C8 f7 f8 cP29 cP30) a m)) (base := base) B C SC XF SM k_need_words k_words_at k_read_loads k_read_move k_read_one k_need_rig (mg_of X Gn e1a) T1 (mg_of X Gn a7) (mg_of X Gn a8) (mg_of X Gn a18) (fun_mk (st := top 49) l18 c18 k18)
  have k_read_run := ok_read_run (P := P) (w := w) (G := (lawG K (exG C0 C1 C3 C6 C8 f7 f8 cP29 cP30) a m)) (base := base) B C SC XF SM k_need_rig k_need_words k_need_count k_number_in k_is_move_texts (mg_of X Gn e1a) T1 (mg_of X Gn a19) (fun_mk (st := top 50) l19 c19 k19)
  have k__law_begun := ok__law_begun (P := P) (w := w) (G := (lawG K (exG C0 C1 C3 C6 C8 f7 f8 cP29 cP30) a m)) (base := base) B SC (mg_of X Gn a20) (fun_mk (st := top 52) l20 c20 k20)
  have k__law_next := ok__law_next (P := P) (w := w) (G := (lawG K (exG C0 C1 C3 C6 C8 f7 f8 cP29 cP30) a m)) (base := base) B (mg_of X Gn a21) (fun_mk (st := top 53) l21 c21 k21)
  have k__law_among := ok__law_among (P := P) (w := w) (G := (lawG K (exG C0 C1 C3 C6 C8 f7 f8 cP29 cP30) a m)) (base := base) B C SC XF SM k__law_next (mg_of X Gn a22) (fun_mk (st := top 54) l22 c22 k22)
  have k__law_loads := ok__law_loads (P := P) (w := w) (G := (lawG K (exG C0 C1 C3 C6 C8 f7 f8 cP29 cP30) a m)) (base := base) B C SC XF SM k__law_next (mg_of X Gn a23) (fun_mk (st := top 55) l23 c23 k23)
  have k__law_move := ok__law_move (P := P) (w := w) (G := (lawG K (exG C0 C1 C3 C6 C8 f7 f8 cP29 cP30) a m)) (base := base) B C SC XF SM k__law_next (mg_of X Gn a24) (fun_mk (st := top 56) l24 c24 k24)
  have k__law_rig := ok__law_rig (P := P) (w := w) (G := (lawG K (exG C0 C1 C3 C6 C8 f7 f8 cP29 cP30) a m)) (base := base) B C SC XF SM k__law_loads k__law_next k__law_move (mg_of X Gn a25) (fun_mk (st := top 57) l25 c25 k25)
  have k__law_said := okL__law_said (P := P) (w := w) (G := (lawG K (exG C0 C1 C3 C6 C8 f7 f8 cP29 cP30) a m)) (base := base) B C SC XF SM (mg_of X Gn e0a) (mg_of X Gn e1a) (mg_of X Gn e3a) (mg_of X Gn e6a) (mg_of X Gn e8a) CT6 (mg_of X Gn a26) (fun_mk (st := top 58) l26 c26 k26)
  have k__law_number := ok__law_number (P := P) (w := w) (G := (lawG K (exG C0 C1 C3 C6 C8 f7 f8 cP29 cP30) a m)) (base := base) B C SC XF SM (mg_of X Gn a27) (fun_mk (st := top 59) l27 c27 k27)
  have k__law_run_due := ok__law_run_due (P := P) (w := w) (G := (lawG K (exG C0 C1 C3 C6 C8 f7 f8 cP29 cP30) a m)) (base := base) B C SC XF SM k__law_number (mg_of X Gn a28) (fun_mk (st := top 60) l28 c28 k28)
  have TT29 : TabT (lawG K (exG C0 C1 C3 C6 C8 f7 f8 cP29 cP30) a m) base mg cA29 cP29 ("_law_runs_right" ++ ".<locals>." ++ "<lambda>") := ⟨TBS (cA29, cP29) (by simp), by show _ ∈ ([(cP29, "_law_runs_right" ++ ".<locals>." ++ "<lambda>"), (cP30, "law" ++ ".<locals>." ++ "<lambda>")] : List (Addr × Str)); simp, fun p hp e => by
    have hp : p ∈ ([(cP29, "_law_runs_right" ++ ".<locals>." ++ "<lambda>"), (cP30, "law" ++ ".<locals>." ++ "<lambda>")] : List (Addr × Str)) := hp
    simp only [List.mem_cons, List.not_mem_nil, or_false] at hp
    rcases hp with rfl | rfl
    · rfl
    · exact absurd e (Ne.symm v29_30)⟩
  have k__law_runs_right := ok__law_runs_right (P := P) (w := w) (G := (lawG K (exG C0 C1 C3 C6 C8 f7 f8 cP29 cP30) a m)) (base := base) B C SC XF SM k__law_next k__law_among k_run_text k_read_run k__law_run_due k__law_said TT29 (mg_of X Gn a29) ⟨⟨_, _, _, _, _, _, _, _, rfl, l29, c29⟩, k29⟩
  have TT30 : TabT (lawG K (exG C0 C1 C3 C6 C8 f7 f8 cP29 cP30) a m) base mg cA30 cP30 ("law" ++ ".<locals>." ++ "<lambda>") := ⟨TBS (cA30, cP30) (by simp), by show _ ∈ ([(cP29, "_law_runs_right" ++ ".<locals>." ++ "<lambda>"), (cP30, "law" ++ ".<locals>." ++ "<lambda>")] : List (Addr × Str)); simp, fun p hp e => by
    have hp : p ∈ ([(cP29, "_law_runs_right" ++ ".<locals>." ++ "<lambda>"), (cP30, "law" ++ ".<locals>." ++ "<lambda>")] : List (Addr × Str)) := hp
    simp only [List.mem_cons, List.not_mem_nil, or_false] at hp
    rcases hp with rfl | rfl
    · exact absurd e v29_30
    · rfl⟩
  have k_law := ok_law (P := P) (w := w) (G := (lawG K (exG C0 C1 C3 C6 C8 f7 f8 cP29 cP30) a m)) (base := base) B C SC XF SM k__law_begun k__law_rig k__law_among k_rig_text k_run_text k_read_run k__law_runs_right k_read_rig k__law_said TT30 (mg_of X Gn a30) ⟨⟨_, _, _, _, _, _, _, _, rfl, l30, c30⟩, k30⟩
  exact k_law
end
end Sag
open PySem PySem.W PyProof.Rows DL
set_option maxRecDepth 100000 in
set_option maxHeartbeats 0 in
theorem PySem.Challenge.cw_sagwire_k51_texts_refused_holds : PySem.Challenge.rw_sagwire_k51_texts_refused.Holds := by
  w_on; o_law; k_head; (case hw => w_witness2)
  k_fill
  refine DL.walk_ofC (l := PySem.Challenge.rw_sagwire_k51_texts_refused) (n := 63) (k := 29) (den := Sag.den_law) _ (by decide +kernel) rfl (by decide) rfl ⟨rfl, by decide, by decide⟩ (fun w h Y => PySem.W.km_in_of Y) (fun w h Y => PySem.W.km_tabs_of Y) ?F Sag.plain
  case F =>
    intro w mg fa h KX G hmg
    refine' Sag.all_mk KX G ?a0 ?l0 ?c0 ?k0 ?a1 ?l1 ?c1 ?k1 ?a2 ?l2 ?c2 ?k2 ?a3 ?l3 ?c3 ?k3 ?a4 ?l4 ?c4 ?k4 ?a5 ?l5 ?c5 ?k5 ?a6 ?l6 ?c6 ?k6 ?a7 ?l7 ?d7 ?c7 ?k7 ?a8 ?l8 ?c8 ?k8 ?a9 ?l9 ?c9 ?k9 ?a10 ?l10 ?c10 ?k10 ?a11 ?l11 ?c11 ?k11 ?a12 ?l12 ?c12 ?k12 ?a13 ?l13 ?c13 ?k13 ?a14 ?l14 ?c14 ?k14 ?a15 ?l15 ?c15 ?k15 ?a16 ?l16 ?c16 ?k16 ?a17 ?l17 ?c17 ?k17 ?a18 ?l18 ?c18 ?k18 ?a19 ?l19 ?c19 ?k19 ?a20 ?l20 ?c20 ?k20 ?a21 ?l21 ?c21 ?k21 ?a22 ?l22 ?c22 ?k22 ?a23 ?l23 ?c23 ?k23 ?a24 ?l24 ?c24 ?k24 ?a25 ?l25 ?c25 ?k25 ?a26 ?l26 ?c26 ?k26 ?a27 ?l27 ?c27 ?k27 ?a28 ?l28 ?c28 ?k28 ?a29 ?l29 ?c29 ?h29 ?p29 ?n29 ?k29 ?a30 ?l30 ?c30 ?h30 ?p30 ?n30 ?k30 ?b_is_move_texts ?v29_30 ?z_all ?z_bool ?z_enumerate ?z_int ?z_isinstance ?z_len ?z_list ?z_max ?z_min ?z_range ?z_repr ?z_str ?z_tuple ?g_DASH ?g_FIGURES ?g_FULL ?g_LEAST_LOADS ?g_LIMIT ?g_LOADS ?g_MOST_IDLE ?g_MOST_LIMIT ?g_MOST_LOAD ?g_MOST_LOADS ?g_MOST_MOVES_rigs ?g_MOST_MOVES_texts ?g_MOST_PART ?g_MOST_RUN ?g_MOST_STANDINGS ?g_MOST_VOLTS ?g_MOVE ?g_MOVE_WORDS ?g_NONE ?g_SAG ?e0a ?e0l ?e0g ?e0t ?e0x ?e0c ?e0m ?e0d ?e0n ?e1a ?e1l ?e1g ?e1t ?e1x ?e1c ?e1m ?e1d ?e1n ?e3a ?e3l ?e3g ?e3t ?e3x ?e3c ?e3m ?e3d ?e3n ?e6a ?e6l ?e6g ?e6t ?e6x ?e6c ?e6m ?e6d ?e6n ?e8a ?e8l ?e8g ?e8t ?e8x ?e8c ?e8m ?e8d ?hn ?tkc ?y0_0 ?y0_1 ?y0_3 ?y0_6 ?y0_8 ?y1_0 ?y1_1 ?y1_3 ?y1_6 ?y1_8 ?y3_0 ?y3_1 ?y3_3 ?y3_6 ?y3_8 ?y6_0 ?y6_1 ?y6_3 ?y6_6 ?y6_8 ?y8_0 ?y8_1 ?y8_3 ?y8_6 ?y8_8 ?x0_6 ?x1_6 ?x3_6 ?x6_6 ?x8_6 ?x0_8 ?x1_8 ?x3_8 ?x6_8 ?x8_8 ?r0L ?r0sa ?r0iC ?r0tC ?r0kC ?r0ty ?r0hB ?r0su ?r0si ?r0fn ?r0cI ?r0vs ?r0cc ?r1L ?r1sa ?r1iC ?r1tC ?r1kC ?r1ty ?r1hB ?r1su ?r1si ?r1fn ?r1cI ?r1vs ?r1cc ?r3L ?r3sa ?r3iC ?r3tC ?r3kC ?r3ty ?r3hB ?r3su ?r3si ?r3fn ?r3cI ?r3vs ?r3cc ?sup ?opq ?r0v2 ?r0fi ?r0ev ?r1v2 ?r1fi ?r1ev ?r3v2 ?r3fi ?r3ev ?ptop
    (case a0 => k_is)
    (case l0 => k_is)
    (case c0 => k_is)
    (case k0 => k_is)
    (case a1 => k_is)
    (case l1 => k_is)
    (case c1 => k_is)
    (case k1 => k_is)
    (case a2 => k_is)
    (case l2 => k_is)
    (case c2 => k_is)
    (case k2 => k_is)
    (case a3 => k_is)
    (case l3 => k_is)
    (case c3 => k_is)
    (case k3 => k_is)
    (case a4 => k_is)
    (case l4 => k_is)
    (case c4 => k_is)
    (case k4 => k_is)
    (case a5 => k_is)
    (case l5 => k_is)
    (case c5 => k_is)
    (case k5 => k_is)
    (case a6 => k_is)
    (case l6 => k_is)
    (case c6 => k_is)
    (case k6 => k_is)
    (case a7 => k_is)
    (case l7 => k_is)
    (case d7 => k_is)
    (case c7 => k_is)
    (case k7 => k_is)
    (case a8 => k_is)
    (case l8 => k_is)
    (case c8 => k_is)
    (case k8 => k_is)
    (case a9 => k_is)
    (case l9 => k_is)
    (case c9 => k_is)
    (case k9 => k_is)
    (case a10 => k_is)
    (case l10 => k_is)
    (case c10 => k_is)
    (case k10 => k_is)
    (case a11 => k_is)
    (case l11 => k_is)
    (case c11 => k_is)
    (case k11 => k_is)
    (case a12 => k_is)
    (case l12 => k_is)
    (case c12 => k_is)
    (case k12 => k_is)
    (case a13 => k_is)
    (case l13 => k_is)
    (case c13 => k_is)
    (case k13 => k_is)
    (case a14 => k_is)
    (case l14 => k_is)
    (case c14 => k_is)
    (case k14 => k_is)
    (case a15 => k_is)
    (case l15 => k_is)
    (case c15 => k_is)
    (case k15 => k_is)
    (case a16 => k_is)
    (case l16 => k_is)
    (case c16 => k_is)
    (case k16 => k_is)
    (case a17 => k_is)
    (case l17 => k_is)
    (case c17 => k_is)
    (case k17 => k_is)
    (case a18 => k_is)
    (case l18 => k_is)
    (case c18 => k_is)
    (case k18 => k_is)
    (case a19 => k_is)
    (case l19 => k_is)
    (case c19 => k_is)
    (case k19 => k_is)
    (case a20 => k_is)
    (case l20 => k_is)
    (case c20 => k_is)
    (case k20 => k_is)
    (case a21 => k_is)
    (case l21 => k_is)
    (case c21 => k_is)
    (case k21 => k_is)
    (case a22 => k_is)
    (case l22 => k_is)
    (case c22 => k_is)
    (case k22 => k_is)
    (case a23 => k_is)
    (case l23 => k_is)
    (case c23 => k_is)
    (case k23 => k_is)
    (case a24 => k_is)
    (case l24 => k_is)
    (case c24 => k_is)
    (case k24 => k_is)
    (case a25 => k_is)
    (case l25 => k_is)
    (case c25 => k_is)
    (case k25 => k_is)
    (case a26 => k_is)
    (case l26 => k_is)
    (case c26 => k_is)
    (case k26 => k_is)
    (case a27 => k_is)
    (case l27 => k_is)
    (case c27 => k_is)
    (case k27 => k_is)
    (case a28 => k_is)
    (case l28 => k_is)
    (case c28 => k_is)
    (case k28 => k_is)
    (case a29 => k_is)
    (case l29 => k_is)
    (case c29 => k_is)
    (case h29 => first | rfl | decide +kernel | k_is)
    (case p29 => simp)
    (case n29 => first | rfl | decide +kernel | k_is)
    (case k29 => k_is)
    (case a30 => k_is)
    (case l30 => k_is)
    (case c30 => k_is)
    (case h30 => first | rfl | decide +kernel | k_is)
    (case p30 => simp)
    (case n30 => first | rfl | decide +kernel | k_is)
    (case k30 => k_is)
    (case b_is_move_texts => k_is)
    (case v29_30 => decide)
    (case z_all => k_is)
    (case z_bool => k_is)
    (case z_enumerate => k_is)
    (case z_int => k_is)
    (case z_isinstance => k_is)
    (case z_len => k_is)
    (case z_list => k_is)
    (case z_max => k_is)
    (case z_min => k_is)
    (case z_range => k_is)
    (case z_repr => k_is)
    (case z_str => k_is)
    (case z_tuple => k_is)
    (case g_DASH => k_is)
    (case g_FIGURES => k_is)
    (case g_FULL => k_is)
    (case g_LEAST_LOADS => k_is)
    (case g_LIMIT => k_is)
    (case g_LOADS => k_is)
    (case g_MOST_IDLE => k_is)
    (case g_MOST_LIMIT => k_is)
    (case g_MOST_LOAD => k_is)
    (case g_MOST_LOADS => k_is)
    (case g_MOST_MOVES_rigs => k_is)
    (case g_MOST_MOVES_texts => k_is)
    (case g_MOST_PART => k_is)
    (case g_MOST_RUN => k_is)
    (case g_MOST_STANDINGS => k_is)
    (case g_MOST_VOLTS => k_is)
    (case g_MOVE => k_is)
    (case g_MOVE_WORDS => k_is)
    (case g_NONE => k_is)
    (case g_SAG => k_is)
    (case e0a => k_is)
    (case e0l => k_is)
    (case e0g => k_is)
    (case e0t => k_is)
    (case e0x => k_is)
    (case e0c => k_is)
    (case e0m => k_is)
    (case e0d => k_is)
    (case e0n => k_is)
    (case e1a => k_is)
    (case e1l => k_is)
    (case e1g => k_is)
    (case e1t => k_is)
    (case e1x => k_is)
    (case e1c => k_is)
    (case e1m => k_is)
    (case e1d => k_is)
    (case e1n => k_is)
    (case e3a => k_is)
    (case e3l => k_is)
    (case e3g => k_is)
    (case e3t => k_is)
    (case e3x => k_is)
    (case e3c => k_is)
    (case e3m => k_is)
    (case e3d => k_is)
    (case e3n => k_is)
    (case e6a => k_is)
    (case e6l => k_is)
    (case e6g => k_is)
    (case e6t => k_is)
    (case e6x => k_is)
    (case e6c => k_is)
    (case e6m => k_is)
    (case e6d => k_is)
    (case e6n => k_is)
    (case e8a => k_is)
    (case e8l => k_is)
    (case e8g => k_is)
    (case e8t => k_is)
    (case e8x => k_is)
    (case e8c => k_is)
    (case e8m => k_is)
    (case e8d => k_is)
    (case hn => k_is)
    (case tkc => k_is)
    (case y0_0 => first | rfl | decide +kernel | k_is)
    (case y0_1 => first | rfl | decide +kernel | k_is)
    (case y0_3 => first | rfl | decide +kernel | k_is)
    (case y0_6 => first | rfl | decide +kernel | k_is)
    (case y0_8 => first | rfl | decide +kernel | k_is)
    (case y1_0 => first | rfl | decide +kernel | k_is)
    (case y1_1 => first | rfl | decide +kernel | k_is)
    (case y1_3 => first | rfl | decide +kernel | k_is)
    (case y1_6 => first | rfl | decide +kernel | k_is)
    (case y1_8 => first | rfl | decide +kernel | k_is)
    (case y3_0 => first | rfl | decide +kernel | k_is)
    (case y3_1 => first | rfl | decide +kernel | k_is)
    (case y3_3 => first | rfl | decide +kernel | k_is)
    (case y3_6 => first | rfl | decide +kernel | k_is)
    (case y3_8 => first | rfl | decide +kernel | k_is)
    (case y6_0 => first | rfl | decide +kernel | k_is)
    (case y6_1 => first | rfl | decide +kernel | k_is)
    (case y6_3 => first | rfl | decide +kernel | k_is)
    (case y6_6 => first | rfl | decide +kernel | k_is)
    (case y6_8 => first | rfl | decide +kernel | k_is)
    (case y8_0 => first | rfl | decide +kernel | k_is)
    (case y8_1 => first | rfl | decide +kernel | k_is)
    (case y8_3 => first | rfl | decide +kernel | k_is)
    (case y8_6 => first | rfl | decide +kernel | k_is)
    (case y8_8 => first | rfl | decide +kernel | k_is)
    (case x0_6 => first | rfl | decide +kernel | k_is)
    (case x1_6 => first | rfl | decide +kernel | k_is)
    (case x3_6 => first | rfl | decide +kernel | k_is)
    (case x6_6 => first | rfl | decide +kernel | k_is)
    (case x8_6 => first | rfl | decide +kernel | k_is)
    (case x0_8 => first | rfl | decide +kernel | k_is)
    (case x1_8 => first | rfl | decide +kernel | k_is)
    (case x3_8 => first | rfl | decide +kernel | k_is)
    (case x6_8 => first | rfl | decide +kernel | k_is)
    (case x8_8 => first | rfl | decide +kernel | k_is)
    (case r0L => k_is)
    (case r0sa => k_is)
    (case r0iC => k_is)
    (case r0tC => k_is)
    (case r0kC => k_is)
    (case r0ty => k_is)
    (case r0hB => k_is)
    (case r0su => k_is)
    (case r0si => first | rfl | decide +kernel | k_is)
    (case r0fn => k_is)
    (case r0cI => k_is)
    (case r0vs => k_is)
    (case r0cc => k_is)
    (case r1L => k_is)
    (case r1sa => k_is)
    (case r1iC => k_is)
    (case r1tC => k_is)
    (case r1kC => k_is)
    (case r1ty => k_is)
    (case r1hB => k_is)
    (case r1su => k_is)
    (case r1si => first | rfl | decide +kernel | k_is)
    (case r1fn => k_is)
    (case r1cI => k_is)
    (case r1vs => k_is)
    (case r1cc => k_is)
    (case r3L => k_is)
    (case r3sa => k_is)
    (case r3iC => k_is)
    (case r3tC => k_is)
    (case r3kC => k_is)
    (case r3ty => k_is)
    (case r3hB => k_is)
    (case r3su => k_is)
    (case r3si => first | rfl | decide +kernel | k_is)
    (case r3fn => k_is)
    (case r3cI => k_is)
    (case r3vs => k_is)
    (case r3cc => k_is)
    (case sup => k_is)
    (case opq => k_is)
    (case r0v2 => first | rfl | decide +kernel | k_is)
    (case r0fi => first | rfl | decide +kernel | k_is)
    (case r0ev => intro env; exact ⟨_, rfl⟩)
    (case r1v2 => first | rfl | decide +kernel | k_is)
    (case r1fi => first | rfl | decide +kernel | k_is)
    (case r1ev => intro env; exact ⟨_, rfl⟩)
    (case r3v2 => first | rfl | decide +kernel | k_is)
    (case r3fi => first | rfl | decide +kernel | k_is)
    (case r3ev => intro env; exact ⟨_, rfl⟩)
    (case ptop => first | rfl | decide +kernel | k_is)
