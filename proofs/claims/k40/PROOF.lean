import PyProof.Rows.All
import Wide.All
import OpenK.AllK
import Wide.FinOn
import HandS.ForMost
import HandS.ForExc
import HandS.TupAny
import HandS.TupLe
import HandS.IsInst
import HandS.TupMul
import KE.SortData
import KE.DataCmp
import PyProof.WalkInts
import HandS.List
import HandS.More
import KE.KDictCopyH
import KE.KDictSum
import PyProof.TupleOfSeq
import HandS.DictTup
import HandS.Style
import HandS.CallLocal
import HandS.SetKeys
import KE.KDictPairs
import HandS.TupSets
import HandS.ExcOwn
import HandS.TryMany
import HandS.Zip
import HandS.HeadHook1
import HandS.TryOnly
import HandS.Flow
import HandS.Ends
import HandS.WordsExc
import HandS.Defaults
import HandS.Head0
import HandS.Head1
import HandS.Head2
import HandS.HeadEnd
import HandS.HeadHook2
import PySem.Challenge.RW_neartold_k40_whole_keeping_by_slack
set_option Elab.async false
set_option linter.all false
set_option maxRecDepth 100000
set_option maxHeartbeats 0
/-! the values and the store of the small interpreter, and how they stand for the heap -/
namespace NT
open PySem L2

inductive D where
  | non | bl (b : Bool) | int (i : Int) | str (x : Str) | tup (ds : List D) | pt (ds : List D) | lst (ds : List D) | wt (ds : List D) | wl (ds : List D) | ref (i : Nat) | fn (i : Nat) | ty (n : String)

inductive Cell where
  | lst (ds : List D)
  | dK (kvs : List (Key × D))
  | dT (kvs : List (List Key × D))
  | ins (c : Nat) (fs : List (Str × D))
  | frz (c : Cell)
abbrev Sto := List Cell

inductive R (A : Type) where
  | ok (a : A) (S : Sto)
  | exc (c : Nat) (S : Sto)
  | stuck

/-- lists in the making, things locked -/
abbrev PZ := List (Addr × Option HO)
def PZ.prv (Z : PZ) (a : Addr) : Prop := (a, (none : Option HO)) ∈ Z
def isFz : HO → Bool
  | .frz _ _ => true
  | _ => false
/-- the world's part that a value leans on -/
structure TW where
  K : PySem.W.Frag
  fa : Nat → Addr
  ca : Nat → Addr
  /-- lists in the making -/
  pz : PZ := []
/-- the same, but for the lists in the making -/
def TW.wp (T : TW) (Z : PZ) : TW := { T with pz := Z }

def WrL (K : PySem.W.Frag) (a : Addr) (xs : List V) : Prop :=
  ∃ (o : Obj) (its : Array Value) (n : Nat), K.lookup a = some o ∧ o.cls = .type "list" ∧ o.dict = none ∧ o.data = .seq its n ∧ its.size ≤ sizeLine ∧ Vals xs its.toList
def WrT (K : PySem.W.Frag) (a : Addr) (xs : List V) : Prop :=
  ∃ (o : Obj) (its : Array Value) (n : Nat), K.lookup a = some o ∧ o.cls = .type "tuple" ∧ o.data = .seq its n ∧ its.size ≤ sizeLine ∧ Vals xs its.toList
def LiL (K : PySem.W.Frag) (Z : PZ) (H : Hp) (α : List Addr) (a : Addr) (xs : List V) : Prop := (Rd H a (.lst xs) ∧ a ∉ α ∧ ¬ Z.prv a) ∨ WrL K a xs
def LiT (K : PySem.W.Frag) (H : Hp) (α : List Addr) (a : Addr) (xs : List V) : Prop := (Rd H a (.tup xs) ∧ a ∉ α) ∨ WrT K a xs
def TrL (Z : PZ) (H : Hp) (α : List Addr) (a : Addr) (xs : List V) : Prop := H a = some (.lst xs) ∧ a ∉ α ∧ ¬ Z.prv a
def TrT (H : Hp) (α : List Addr) (a : Addr) (xs : List V) : Prop := H a = some (.tup xs) ∧ a ∉ α
/-- a tuple that is known to the last bit -/
def TrP (H : Hp) (α : List Addr) (a : Addr) (xs : List V) : Prop := ∃ o : Obj, H a = some (.frz o (.tup xs)) ∧ o.dict = none ∧ a ∉ α
theorem TrP.sq {K H α a xs} (h : TrP H α a xs) : SqT K H a xs := by
  obtain ⟨o, e, _⟩ := h
  exact .inl (.inr ⟨o, e⟩)
theorem TrL.sq {K Z H α a xs} (h : TrL Z H α a xs) : SqL K H a xs := SqL.of h.1
theorem TrT.sq {K H α a xs} (h : TrT H α a xs) : SqT K H a xs := SqT.of h.1
theorem LiL.sq {K Z H α a xs} (h : LiL K Z H α a xs) : SqL K H a xs := h.elim (fun h => .inl h.1) .inr
theorem LiT.sq {K H α a xs} (h : LiT K H α a xs) : SqT K H a xs := h.elim (fun h => .inl h.1) .inr

mutual
def Rep (T : TW) (H : Hp) (α : List Addr) : D → V → Prop
  | .non, v => v = .non
  | .bl b, v => v = .bl b
  | .int i, v => v = .int i
  | .str x, v => v = .str x
  | .tup ds, v => ∃ a vs, v = .ref a ∧ TrT H α a vs ∧ RepL T H α ds vs
  | .pt ds, v => ∃ a vs, v = .ref a ∧ TrP H α a vs ∧ RepL T H α ds vs
  | .lst ds, v => ∃ a vs, v = .ref a ∧ TrL T.pz H α a vs ∧ RepL T H α ds vs
  | .wt ds, v => ∃ a vs, v = .ref a ∧ LiT T.K H α a vs ∧ RepL T H α ds vs
  | .wl ds, v => ∃ a vs, v = .ref a ∧ LiL T.K T.pz H α a vs ∧ RepL T H α ds vs
  | .ref i, v => ∃ a, v = .ref a ∧ α[i]? = some a
  | .fn i, v => v = .ref (T.fa i)
  | .ty n, v => v = .ty n
def RepL (T : TW) (H : Hp) (α : List Addr) : List D → List V → Prop
  | [], vs => vs = []
  | d :: ds, vs => ∃ v r, vs = v :: r ∧ Rep T H α d v ∧ RepL T H α ds r
end

structure Ext (H : Hp) (α : List Addr) (H' : Hp) (α' : List Addr) : Prop where
  pre : ∃ β, α' = α ++ β
  new : ∀ a ∈ α', a ∉ α → H a = none
  keep : ∀ a o, H a = some o → a ∉ α → H' a = some o
theorem Ext.refl (H : Hp) (α : List Addr) : Ext H α H α := ⟨⟨[], by simp⟩, fun a h n => absurd h n, fun _ _ h _ => h⟩
theorem Ext.sub {H α H' α'} (e : Ext H α H' α') : ∀ a ∈ α, a ∈ α' := fun a h => by
  obtain ⟨β, rfl⟩ := e.pre
  exact List.mem_append_left _ h
theorem Ext.trans {H α H1 α1 H2 α2} (e : Ext H α H1 α1) (f : Ext H1 α1 H2 α2) : Ext H α H2 α2 := by
  refine ⟨?_, fun a h n => ?_, fun a o h n => ?_⟩
  · obtain ⟨β, rfl⟩ := e.pre
    obtain ⟨γ, rfl⟩ := f.pre
    exact ⟨β ++ γ, by simp⟩
  · by_cases h1 : a ∈ α1
    · exact e.new a h1 n
    · cases q : H a with
      | none => rfl
      | some o =>
        have := e.keep a o q n
        rw [f.new a h h1] at this
        cases this
  · have h1 : a ∉ α1 := fun z => by
      rw [e.new a z n] at h; cases h
    exact f.keep a o (e.keep a o h n) h1
theorem Ext.get {H α H' α'} (e : Ext H α H' α') {i : Nat} {a : Addr} (h : α[i]? = some a) : α'[i]? = some a := by
  obtain ⟨β, rfl⟩ := e.pre
  rw [List.getElem?_append_left (by
    have := (List.getElem?_eq_some_iff.mp h).1
    exact this)]
  exact h
theorem Ext.rd {H α H' α'} (e : Ext H α H' α') {a : Addr} {u : HO} (h : Rd H a u) (n : a ∉ α) : Rd H' a u ∧ a ∉ α' := by
  rcases h with h | ⟨o, h⟩
  · refine ⟨.inl (e.keep a _ h n), fun z => ?_⟩
    rw [e.new a z n] at h; cases h
  · refine ⟨.inr ⟨o, e.keep a _ h n⟩, fun z => ?_⟩
    rw [e.new a z n] at h; cases h
mutual
theorem Rep.ext {T : TW} {H : Hp} {α : List Addr} {H' : Hp} {α' : List Addr} (e : Ext H α H' α') : ∀ {d : D} {v : V}, Rep T H α d v → Rep T H' α' d v
  | .non, _, h => h
  | .bl _, _, h => h
  | .int _, _, h => h
  | .str _, _, h => h
  | .tup ds, _, h => by
    obtain ⟨a, vs, e1, h1, h2⟩ := h
    exact ⟨a, vs, e1, ⟨e.keep a _ h1.1 h1.2, fun z => by have q := e.new a z h1.2; rw [h1.1] at q; cases q⟩, RepL.ext e h2⟩
  | .pt ds, _, h => by
    obtain ⟨a, vs, e1, ⟨o, q1, q2, q3⟩, h2⟩ := h
    exact ⟨a, vs, e1, ⟨o, e.keep a _ q1 q3, q2, fun z => by have q := e.new a z q3; rw [q1] at q; cases q⟩, RepL.ext e h2⟩
  | .lst ds, _, h => by
    obtain ⟨a, vs, e1, h1, h2⟩ := h
    exact ⟨a, vs, e1, ⟨e.keep a _ h1.1 h1.2.1, (fun z => by have q := e.new a z h1.2.1; rw [h1.1] at q; cases q), h1.2.2⟩, RepL.ext e h2⟩
  | .wt ds, _, h => by
    obtain ⟨a, vs, e1, h1, h2⟩ := h
    refine ⟨a, vs, e1, ?_, RepL.ext e h2⟩
    rcases h1 with ⟨h1, n⟩ | h1
    · exact .inl (e.rd h1 n)
    · exact .inr h1
  | .wl ds, _, h => by
    obtain ⟨a, vs, e1, h1, h2⟩ := h
    refine ⟨a, vs, e1, ?_, RepL.ext e h2⟩
    rcases h1 with ⟨h1, n, nz⟩ | h1
    · exact .inl ⟨(e.rd h1 n).1, (e.rd h1 n).2, nz⟩
    · exact .inr h1
  | .ref i, _, h => by
    obtain ⟨a, e1, h1⟩ := h
    exact ⟨a, e1, e.get h1⟩
  | .fn _, _, h => h
  | .ty _, _, h => h
theorem RepL.ext {T : TW} {H : Hp} {α : List Addr} {H' : Hp} {α' : List Addr} (e : Ext H α H' α') : ∀ {ds : List D} {vs : List V}, RepL T H α ds vs → RepL T H' α' ds vs
  | [], _, h => h
  | d :: ds, _, h => by
    obtain ⟨v, r, e1, h1, h2⟩ := h
    exact ⟨v, r, e1, Rep.ext e h1, RepL.ext e h2⟩
end

section
variable {T : TW} {H : Hp} {α : List Addr}
theorem RepL.length : ∀ {ds : List D} {vs : List V}, RepL T H α ds vs → ds.length = vs.length
  | [], _, h => by cases h; rfl
  | _ :: ds, _, h => by
    obtain ⟨v, r, rfl, _, h2⟩ := h
    simp [RepL.length h2]
theorem RepL.get : ∀ {ds : List D} {vs : List V} {i : Nat} {d : D}, RepL T H α ds vs → ds[i]? = some d → ∃ v, vs[i]? = some v ∧ Rep T H α d v
  | [], _, _, _, _, e => by simp at e
  | _ :: ds, _, 0, d, h, e => by
    obtain ⟨v, r, rfl, h1, h2⟩ := h
    simp at e; subst e
    exact ⟨v, rfl, h1⟩
  | _ :: ds, _, i + 1, d, h, e => by
    obtain ⟨v, r, rfl, h1, h2⟩ := h
    obtain ⟨w, e1, h3⟩ := RepL.get (i := i) h2 (by simpa using e)
    exact ⟨w, by simpa using e1, h3⟩
theorem RepL.get' : ∀ {ds : List D} {vs : List V} {i : Nat} {v : V}, RepL T H α ds vs → vs[i]? = some v → ∃ d, ds[i]? = some d ∧ Rep T H α d v
  | [], _, _, _, h, e => by cases h; simp at e
  | d :: ds, _, 0, v, h, e => by
    obtain ⟨v', r, rfl, h1, h2⟩ := h
    simp at e; subst e
    exact ⟨d, rfl, h1⟩
  | _ :: ds, _, i + 1, v, h, e => by
    obtain ⟨v', r, rfl, h1, h2⟩ := h
    obtain ⟨w, e1, h3⟩ := RepL.get' (i := i) h2 (by simpa using e)
    exact ⟨w, by simpa using e1, h3⟩
theorem RepL.append : ∀ {ds es : List D} {vs ws : List V}, RepL T H α ds vs → RepL T H α es ws → RepL T H α (ds ++ es) (vs ++ ws)
  | [], _, _, _, h, h' => by cases h; exact h'
  | d :: ds, _, _, _, h, h' => by
    obtain ⟨v, r, rfl, h1, h2⟩ := h
    exact ⟨v, r ++ _, rfl, h1, RepL.append h2 h'⟩
theorem RepL.take : ∀ {ds : List D} {vs : List V} (n : Nat), RepL T H α ds vs → RepL T H α (ds.take n) (vs.take n)
  | ds, vs, 0, _ => by simp [RepL]
  | [], _, n + 1, h => by cases h; simp [RepL]
  | d :: ds, _, n + 1, h => by
    obtain ⟨v, r, rfl, h1, h2⟩ := h
    exact ⟨v, r.take n, rfl, h1, RepL.take n h2⟩
theorem RepL.drop : ∀ {ds : List D} {vs : List V} (n : Nat), RepL T H α ds vs → RepL T H α (ds.drop n) (vs.drop n)
  | ds, vs, 0, h => h
  | [], _, n + 1, h => by cases h; simp [RepL]
  | d :: ds, _, n + 1, h => by
    obtain ⟨v, r, rfl, h1, h2⟩ := h
    exact RepL.drop n h2
theorem RepL.set {d : D} {v : V} (hd : Rep T H α d v) : ∀ {ds : List D} {vs : List V} (n : Nat), RepL T H α ds vs → RepL T H α (ds.set n d) (vs.set n v)
  | [], _, n, h => by cases h; simp [RepL]
  | _ :: ds, _, 0, h => by
    obtain ⟨v, r, rfl, h1, h2⟩ := h
    exact ⟨_, r, rfl, hd, h2⟩
  | _ :: ds, _, n + 1, h => by
    obtain ⟨v, r, rfl, h1, h2⟩ := h
    exact ⟨v, _, rfl, h1, RepL.set hd n h2⟩
theorem RepL.ints : ∀ {ns : List Int} {vs : List V}, RepL T H α (ns.map D.int) vs → vs = ns.map V.int
  | [], _, h => h
  | n :: ns, _, h => by
    obtain ⟨v, r, rfl, h1, h2⟩ := h
    rw [RepL.ints h2, show v = V.int n from h1]; rfl
theorem RepL.of_ints : ∀ (ns : List Int), RepL T H α (ns.map D.int) (ns.map V.int)
  | [] => rfl
  | n :: ns => ⟨_, _, rfl, rfl, RepL.of_ints ns⟩
theorem RepL.bls : ∀ {ns : List Bool} {vs : List V}, RepL T H α (ns.map D.bl) vs → vs = ns.map V.bl
  | [], _, h => h
  | n :: ns, _, h => by
    obtain ⟨v, r, rfl, h1, h2⟩ := h
    rw [RepL.bls h2, show v = V.bl n from h1]; rfl
end

/-! cells -/
def RepKV {κ : Type} (T : TW) (H : Hp) (α : List Addr) : List (κ × D) → List (κ × V) → Prop
  | [], ws => ws = []
  | kd :: r, ws => ∃ v r', ws = (kd.1, v) :: r' ∧ Rep T H α kd.2 v ∧ RepKV T H α r r'
def CRep (T : TW) (H : Hp) (α : List Addr) : Cell → HO → Prop
  | .lst ds, u => ∃ vs, u = .lst vs ∧ RepL T H α ds vs
  | .dK kvs, u => ∃ ws, u = .dK ws ∧ RepKV T H α kvs ws
  | .dT kvs, u => ∃ ws, u = .dT ws ∧ RepKV T H α kvs ws
  | .ins c fs, u => ∃ dx ws, u = .ins (T.ca c) dx ws ∧ RepKV T H α fs ws
  | .frz c, u => ∃ o u', u = .frz o u' ∧ CRep T H α c u'
theorem RepKV.ext {κ : Type} {T : TW} {H : Hp} {α : List Addr} {H' : Hp} {α' : List Addr} (e : Ext H α H' α') : ∀ {ks : List (κ × D)} {ws : List (κ × V)}, RepKV T H α ks ws → RepKV T H' α' ks ws
  | [], _, h => h
  | _ :: _, _, h => by
    obtain ⟨v, r, rfl, h1, h2⟩ := h
    exact ⟨v, r, rfl, h1.ext e, RepKV.ext e h2⟩
theorem CRep.ext {T : TW} {H : Hp} {α : List Addr} {H' : Hp} {α' : List Addr} (e : Ext H α H' α') : ∀ {c : Cell} {u : HO}, CRep T H α c u → CRep T H' α' c u
  | .lst _, _, ⟨vs, h1, h2⟩ => ⟨vs, h1, h2.ext e⟩
  | .dK _, _, ⟨vs, h1, h2⟩ => ⟨vs, h1, h2.ext e⟩
  | .dT _, _, ⟨vs, h1, h2⟩ => ⟨vs, h1, h2.ext e⟩
  | .ins _ _, _, ⟨dx, vs, h1, h2⟩ => ⟨dx, vs, h1, h2.ext e⟩
  | .frz _, _, ⟨o, u, h1, h2⟩ => ⟨o, u, h1, h2.ext e⟩

structure HR (T : TW) (H : Hp) (α : List Addr) (S : Sto) : Prop where
  len : α.length = S.length
  nd : α.Nodup
  cell : ∀ (i : Nat) (c : Cell), S[i]? = some c → ∃ a u, α[i]? = some a ∧ H a = some u ∧ CRep T H α c u
  priv : ∀ a, T.pz.prv a → a ∉ α ∧ ∃ xs, H a = some (.lst xs)
  lck : ∀ a u, (a, some u) ∈ T.pz → H a = some u ∧ isFz u = true
  fz : ∀ (i : Nat) (c : Cell), S[i]? = some (.frz c) → ∃ a u, α[i]? = some a ∧ (a, some u) ∈ T.pz
/-- a cell looked at through a lock -/
def unl : Cell → Cell
  | .frz c => c
  | c => c
@[simp] theorem unl_lst {ds : List D} : unl (.lst ds) = .lst ds := rfl
@[simp] theorem unl_dK {ds : List (Key × D)} : unl (.dK ds) = .dK ds := rfl
@[simp] theorem unl_dT {ds : List (List Key × D)} : unl (.dT ds) = .dT ds := rfl
@[simp] theorem unl_ins {c : Nat} {ds : List (Str × D)} : unl (.ins c ds) = .ins c ds := rfl
@[simp] theorem unl_frz {c : Cell} : unl (.frz c) = c := rfl

section
variable {T : TW} {H H' : Hp} {α α' : List Addr} {S : Sto}
theorem HR.cellR (h : HR T H α S) {i : Nat} {c : Cell} (q : (S[i]?).map unl = some c) : ∃ a u, α[i]? = some a ∧ Rd H a u ∧ CRep T H α c u := by
  obtain ⟨c', e, rfl⟩ := Option.map_eq_some_iff.mp q
  obtain ⟨a, u, e1, e2, e3⟩ := h.cell i c' e
  cases c' with
  | frz c =>
    obtain ⟨o, u', rfl, e4⟩ := e3
    exact ⟨a, u', e1, .inr ⟨o, e2⟩, e4⟩
  | _ => exact ⟨a, u, e1, .inl e2, e3⟩
theorem HR.there (h : HR T H α S) {a : Addr} (ha : a ∈ α) : ∃ u, H a = some u := by
  obtain ⟨i, hi⟩ := List.getElem?_of_mem ha
  have hl : i < S.length := by
    rw [← h.len]; exact (List.getElem?_eq_some_iff.mp hi).1
  obtain ⟨a', u, e, e2, _⟩ := h.cell i S[i] (by simp [hl])
  rw [hi] at e; cases e
  exact ⟨u, e2⟩
theorem HR.fresh (h : HR T H α S) {p : Addr} (hp : H p = none) : p ∉ α := fun z => by
  obtain ⟨u, e⟩ := h.there z
  rw [hp] at e; cases e
/-- a new object that is no cell -/
theorem Ext.laid (h : HR T H α S) {p : Addr} (hp : H p = none) (o : HO) : Ext H α (upd H p o) α :=
  ⟨⟨[], by simp⟩, fun a h n => absurd h n, fun a u e n => by rw [upd_ne (ne_of_none e hp)]; exact e⟩
theorem HR.freshZ (h : HR T H α S) {p : Addr} (hp : H p = none) : ¬ T.pz.prv p := fun z => by
  obtain ⟨_, xs, e⟩ := h.priv p z
  rw [hp] at e; cases e
theorem HR.privE (h : HR T H α S) (e : Ext H α H' α') : ∀ a, T.pz.prv a → a ∉ α' ∧ ∃ xs, H' a = some (.lst xs) := fun a ha => by
  obtain ⟨n, xs, q⟩ := h.priv a ha
  refine ⟨fun z => ?_, xs, e.keep a _ q n⟩
  rw [e.new a z n] at q; cases q
theorem HR.keep (h : HR T H α S) (e : Ext H α H' α) (k : ∀ a ∈ α, H' a = H a) : HR T H' α S :=
  ⟨h.len, h.nd, fun i c q => by
    obtain ⟨a, u, e1, e2, e3⟩ := h.cell i c q
    exact ⟨a, u, e1, by rw [k a (List.mem_of_getElem? e1)]; exact e2, e3.ext e⟩, h.privE e, fun a u q => by
    obtain ⟨e1, e2⟩ := h.lck a u q
    refine ⟨?_, e2⟩
    by_cases ha : a ∈ α
    · rw [k a ha]; exact e1
    · exact e.keep a _ e1 ha, h.fz⟩
theorem HR.laid (h : HR T H α S) {p : Addr} (hp : H p = none) (o : HO) : HR T (upd H p o) α S :=
  h.keep (Ext.laid h hp o) fun a ha => upd_ne (by rintro rfl; exact h.fresh hp ha)
/-- a new cell -/
theorem Ext.cell (h : HR T H α S) {p : Addr} (hp : H p = none) (o : HO) : Ext H α (upd H p o) (α ++ [p]) :=
  ⟨⟨[p], rfl⟩, fun a h n => by
    rcases List.mem_append.mp h with z | z
    · exact absurd z n
    · rw [List.mem_singleton.mp z]; exact hp, fun a u e n => by rw [upd_ne (ne_of_none e hp)]; exact e⟩
theorem HR.push (h : HR T H α S) {p : Addr} (hp : H p = none) {c : Cell} {o : HO} (hc : CRep T H α c o) (hn : ∀ c', c ≠ .frz c' := by intro c' z; cases z) : HR T (upd H p o) (α ++ [p]) (S ++ [c]) := by
  have e := Ext.cell h hp o
  refine ⟨by simp [h.len], ?_, fun i c' q => ?_, h.privE e, fun a u q => ?_, fun i c' q => ?_⟩
  · rw [List.nodup_append]
    refine ⟨h.nd, by simp, fun a ha b hb => ?_⟩
    rw [List.mem_singleton.mp hb]
    rintro rfl; exact h.fresh hp ha
  · by_cases hi : i < S.length
    · rw [List.getElem?_append_left hi] at q
      obtain ⟨a, u, e1, e2, e3⟩ := h.cell i c' q
      refine ⟨a, u, e.get e1, ?_, e3.ext e⟩
      rw [upd_ne (by rintro rfl; exact h.fresh hp (List.mem_of_getElem? e1))]
      exact e2
    · have hi' : i = S.length := by
        have := (List.getElem?_eq_some_iff.mp q).1
        simp at this; omega
      subst hi'
      simp at q; subst q
      refine ⟨p, o, ?_, upd_same, hc.ext e⟩
      rw [← h.len]; simp
  · obtain ⟨e1, e2⟩ := h.lck a u q
    exact ⟨by rw [upd_ne (ne_of_none e1 hp)]; exact e1, e2⟩
  · by_cases hi : i < S.length
    · rw [List.getElem?_append_left hi] at q
      obtain ⟨a, u, e1, e2⟩ := h.fz i c' q
      exact ⟨a, u, e.get e1, e2⟩
    · have hi' : i = S.length := by
        have := (List.getElem?_eq_some_iff.mp q).1
        simp at this; omega
      subst hi'
      simp at q
      exact absurd q (hn c')
/-- a cell is written -/
theorem Ext.write {a : Addr} (ha : a ∈ α) (o : HO) : Ext H α (upd H a o) α :=
  ⟨⟨[], by simp⟩, fun a h n => absurd h n, fun b u e n => by rw [upd_ne (by rintro rfl; exact n ha)]; exact e⟩
theorem HR.write (h : HR T H α S) {i : Nat} {a : Addr} (hi : α[i]? = some a) {c : Cell} {o : HO} (hc : CRep T H α c o) (hw : ∃ u, H a = some u ∧ isFz u = false) (hn : ∀ c', c ≠ .frz c' := by intro c' z; cases z) : HR T (upd H a o) α (S.set i c) := by
  have ha := List.mem_of_getElem? hi
  have e := Ext.write (H := H) ha o
  have hl : i < S.length := by rw [← h.len]; exact (List.getElem?_eq_some_iff.mp hi).1
  refine ⟨by simp [h.len], h.nd, fun j c' q => ?_, h.privE e, fun b u q => ?_, fun j c' q => ?_⟩
  · by_cases hj : i = j
    · subst hj
      rw [List.getElem?_set_self hl] at q
      cases q
      exact ⟨a, o, hi, upd_same, hc.ext e⟩
    · rw [List.getElem?_set_ne hj] at q
      obtain ⟨b, u, e1, e2, e3⟩ := h.cell j c' q
      refine ⟨b, u, e1, ?_, e3.ext e⟩
      rw [upd_ne (?_ : b ≠ a)]
      · exact e2
      · intro z; apply hj; subst z
        obtain ⟨h1, h2⟩ := List.getElem?_eq_some_iff.mp hi
        obtain ⟨h3, h4⟩ := List.getElem?_eq_some_iff.mp e1
        exact (List.getElem_inj h.nd).mp (h2.trans h4.symm)
  · obtain ⟨e1, e2⟩ := h.lck b u q
    obtain ⟨u', e3, e4⟩ := hw
    refine ⟨?_, e2⟩
    rw [upd_ne]
    · exact e1
    · rintro rfl
      rw [e1] at e3; cases e3
      rw [e2] at e4; cases e4
  · by_cases hj : i = j
    · subst hj
      rw [List.getElem?_set_self hl] at q
      cases q
      exact absurd rfl (hn c')
    · rw [List.getElem?_set_ne hj] at q
      exact h.fz j c' q
end

/-! slots -/
abbrev Env := List (Option D)
def RepE (T : TW) (H : Hp) (α : List Addr) (ρ : Env) (σ : L2.St) : Prop :=
  ρ.length = σ.length ∧ ∀ (i : Nat) (d : D), ρ[i]? = some (some d) → ∃ v, σ[i]? = some (some v) ∧ Rep T H α d v
theorem RepE.ext {T : TW} {H : Hp} {α : List Addr} {H' : Hp} {α' : List Addr} {ρ : Env} {σ : L2.St} (e : Ext H α H' α') (h : RepE T H α ρ σ) : RepE T H' α' ρ σ :=
  ⟨h.1, fun i d q => by
    obtain ⟨v, e1, e2⟩ := h.2 i d q
    exact ⟨v, e1, e2.ext e⟩⟩
theorem RepE.set {T : TW} {H : Hp} {α : List Addr} {ρ : Env} {σ : L2.St} {d : D} {v : V} (h : RepE T H α ρ σ) (i : Nat) (hd : Rep T H α d v) : RepE T H α (ρ.set i (some d)) (σ.set i (some v)) := by
  refine ⟨by simp [h.1], fun j d' q => ?_⟩
  by_cases hj : i = j
  · subst hj
    have hl : i < ρ.length := by
      have := (List.getElem?_eq_some_iff.mp q).1
      simpa using this
    rw [List.getElem?_set_self hl] at q
    cases q
    exact ⟨v, List.getElem?_set_self (by rw [← h.1]; exact hl), hd⟩
  · rw [List.getElem?_set_ne hj] at q
    obtain ⟨w, e1, e2⟩ := h.2 j d' q
    exact ⟨w, by rw [List.getElem?_set_ne hj]; exact e1, e2⟩

/-- what is wanted of a result -/
def post (T : TW) (H : Hp) (α : List Addr) (r : R D) (Q : VK) (E : Nat → Hp → Prop) : Prop :=
  match r with
  | .ok d S' => ∀ v H' α', Ext H α H' α' → HR T H' α' S' → Rep T H' α' d v → Q v H'
  | .exc c S' => ∀ H' α', Ext H α H' α' → HR T H' α' S' → E c H'
  | .stuck => False
theorem post.ext {T : TW} {H : Hp} {α : List Addr} {H' : Hp} {α' : List Addr} (e : Ext H α H' α') {r : R D} {Q : VK} {E : Nat → Hp → Prop} (h : post T H α r Q E) : post T H' α' r Q E := by
  cases r with
  | ok d S => exact fun v H2 α2 e2 => h v H2 α2 (e.trans e2)
  | exc c S => exact fun H2 α2 e2 => h H2 α2 (e.trans e2)
  | stuck => exact h
end NT
/-! operations on the small values, and that the model's operations give them -/
namespace NT
open PySem L2

/-- what an operation with values is worth; the store behind it -/
abbrev OpF := Sto → List D → Option (D × Sto)
def rC (T : TW) (f : OpF) : List V → Hp → VK → Prop := fun xs H Q =>
  ∃ α S ds r S', HR T H α S ∧ RepL T H α ds xs ∧ f S ds = some (r, S') ∧ ∀ v H' α', Ext H α H' α' → HR T H' α' S' → Rep T H' α' r v → Q v H'
def rC2 (T : TW) (f : OpF) : R2 := fun x y H Q => rC T f [x, y] H Q

def asSeq (S : Sto) : D → Option (Bool × List D)
  | .tup ds => some (false, ds)
  | .pt ds => some (false, ds)
  | .lst ds => some (true, ds)
  | .wt ds => some (false, ds)
  | .wl ds => some (true, ds)
  | .ref i => match S[i]? with
    | some (.lst ds) => some (true, ds)
    | _ => none
  | _ => none
theorem asSeq_ok {T : TW} {H : Hp} {α : List Addr} {S : Sto} {d : D} {v : V} {b : Bool} {ds : List D} (h : HR T H α S) (r : Rep T H α d v) (e : asSeq S d = some (b, ds)) :
    ∃ a vs, v = .ref a ∧ RepL T H α ds vs ∧ (if b = true then SqL T.K H a vs else SqT T.K H a vs) := by
  cases d with
  | tup es =>
    cases e
    obtain ⟨a, vs, e1, h1, h2⟩ := r
    exact ⟨a, vs, e1, h2, h1.sq⟩
  | pt es =>
    cases e
    obtain ⟨a, vs, e1, h1, h2⟩ := r
    exact ⟨a, vs, e1, h2, h1.sq⟩
  | lst es =>
    cases e
    obtain ⟨a, vs, e1, h1, h2⟩ := r
    exact ⟨a, vs, e1, h2, h1.sq⟩
  | wt es =>
    cases e
    obtain ⟨a, vs, e1, h1, h2⟩ := r
    exact ⟨a, vs, e1, h2, h1.sq⟩
  | wl es =>
    cases e
    obtain ⟨a, vs, e1, h1, h2⟩ := r
    exact ⟨a, vs, e1, h2, h1.sq⟩
  | ref i =>
    obtain ⟨a, e1, h1⟩ := r
    simp only [asSeq] at e
    split at e
    · rename_i es q
      cases e
      obtain ⟨a', u, e2, e3, vs, rfl, e4⟩ := h.cell i _ q
      rw [h1] at e2; cases e2
      exact ⟨a, vs, e1, e4, SqL.of e3⟩
    · cases e
  | _ => cases e

/-! data -/
mutual
def D.py0 : D → Option PyData
  | .non => some .none
  | .bl b => some (.bool b)
  | .int i => some (.int i)
  | .str x => some (.str x)
  | .tup ds => (D.py0L ds).map .tuple
  | .pt ds => (D.py0L ds).map .tuple
  | .lst ds => (D.py0L ds).map .list
  | .wt ds => (D.py0L ds).map .tuple
  | .wl ds => (D.py0L ds).map .list
  | .ref _ => none
  | .fn _ => none
  | .ty _ => none
def D.py0L : List D → Option (List PyData)
  | [] => some []
  | d :: ds => match D.py0 d, D.py0L ds with
    | some p, some ps => some (p :: ps)
    | _, _ => none
end
def D.py (S : Sto) : D → Option PyData
  | .ref i => match S[i]? with
    | some (.lst ds) => (D.py0L ds).map .list
    | _ => none
  | d => d.py0
section
variable {T : TW} {H : Hp} {α : List Addr}
mutual
theorem dp0 : ∀ {d : D} {v : V} {p : PyData}, Rep T H α d v → d.py0 = some p → Dp T.K H v p
  | .non, _, _, r, e => by cases r; cases e; exact .non
  | .bl b, _, _, r, e => by cases r; cases e; exact .bl b
  | .int i, _, _, r, e => by cases r; cases e; exact .int i
  | .str x, _, _, r, e => by cases r; cases e; exact .str x
  | .tup ds, _, _, r, e => by
    obtain ⟨a, vs, rfl, h1, h2⟩ := r
    rw [D.py0] at e
    obtain ⟨ps, e1, rfl⟩ := Option.map_eq_some_iff.mp e
    exact .tup h1.sq (dp0L h2 e1)
  | .pt ds, _, _, r, e => by
    obtain ⟨a, vs, rfl, h1, h2⟩ := r
    rw [D.py0] at e
    obtain ⟨ps, e1, rfl⟩ := Option.map_eq_some_iff.mp e
    exact .tup h1.sq (dp0L h2 e1)
  | .lst ds, _, _, r, e => by
    obtain ⟨a, vs, rfl, h1, h2⟩ := r
    rw [D.py0] at e
    obtain ⟨ps, e1, rfl⟩ := Option.map_eq_some_iff.mp e
    exact .lst h1.sq (dp0L h2 e1)
  | .wt ds, _, _, r, e => by
    obtain ⟨a, vs, rfl, h1, h2⟩ := r
    rw [D.py0] at e
    obtain ⟨ps, e1, rfl⟩ := Option.map_eq_some_iff.mp e
    exact .tup h1.sq (dp0L h2 e1)
  | .wl ds, _, _, r, e => by
    obtain ⟨a, vs, rfl, h1, h2⟩ := r
    rw [D.py0] at e
    obtain ⟨ps, e1, rfl⟩ := Option.map_eq_some_iff.mp e
    exact .lst h1.sq (dp0L h2 e1)
  | .ref _, _, _, _, e => by cases e
  | .fn _, _, _, _, e => by cases e
  | .ty _, _, _, _, e => by cases e
theorem dp0L : ∀ {ds : List D} {vs : List V} {ps : List PyData}, RepL T H α ds vs → D.py0L ds = some ps → DpAll T.K H vs ps
  | [], _, _, r, e => by cases r; cases e; exact .nil
  | d :: ds, _, _, r, e => by
    obtain ⟨v, vs, rfl, h1, h2⟩ := r
    rw [D.py0L] at e
    split at e
    · rename_i p ps e1 e2
      cases e
      exact .cons (dp0 h1 e1) (dp0L h2 e2)
    · cases e
end
theorem dp {S : Sto} {d : D} {v : V} {p : PyData} (h : HR T H α S) (r : Rep T H α d v) (e : d.py S = some p) : Dp T.K H v p := by
  cases d with
  | ref i =>
    unfold D.py at e
    simp only at e
    split at e
    · rename_i ds q
      obtain ⟨ps, e1, rfl⟩ := Option.map_eq_some_iff.mp e
      obtain ⟨a, rfl, h1⟩ := r
      obtain ⟨a', u, e2, e3, vs, rfl, e4⟩ := h.cell i _ q
      rw [h1] at e2; cases e2
      exact .lst (SqL.of e3) (dp0L e4 e1)
    · cases e
  | non => exact dp0 r e
  | bl b => exact dp0 r e
  | int i => exact dp0 r e
  | str x => exact dp0 r e
  | tup ds => exact dp0 r e
  | pt ds => exact dp0 r e
  | lst ds => exact dp0 r e
  | wt ds => exact dp0 r e
  | wl ds => exact dp0 r e
  | fn i => exact dp0 r e
  | ty n => exact dp0 r e
end

/-! ### results -/
section
variable {T : TW} {H : Hp} {α : List Addr} {S : Sto} {Q : VK} {r : D}
theorem fin0 (h : HR T H α S) (q : ∀ v H' α', Ext H α H' α' → HR T H' α' S → Rep T H' α' r v → Q v H') {v : V} (hv : Rep T H α r v) : Q v H := q v H α (Ext.refl H α) h hv
theorem finT {ds : List D} {vs : List V} (h : HR T H α S) (q : ∀ v H' α', Ext H α H' α' → HR T H' α' S → Rep T H' α' (.tup ds) v → Q v H') (rs : RepL T H α ds vs) {p : Addr} (hp : H p = none) : Q (.ref p) (upd H p (.tup vs)) := by
  have e := Ext.laid h hp (.tup vs)
  exact q _ _ _ e (h.laid hp _) ⟨p, vs, rfl, ⟨upd_same, h.fresh hp⟩, rs.ext e⟩
theorem finL {ds : List D} {vs : List V} (h : HR T H α S) (q : ∀ v H' α', Ext H α H' α' → HR T H' α' S → Rep T H' α' (.lst ds) v → Q v H') (rs : RepL T H α ds vs) {p : Addr} (hp : H p = none) : Q (.ref p) (upd H p (.lst vs)) := by
  have e := Ext.laid h hp (.lst vs)
  exact q _ _ _ e (h.laid hp _) ⟨p, vs, rfl, ⟨upd_same, h.fresh hp, h.freshZ hp⟩, rs.ext e⟩
end

section
variable {T : TW}
def cellL (S : Sto) (i : Nat) : Option (List D) := match S[i]? with
  | some (.lst ds) => some ds
  | _ => none
theorem cellL_ok {H : Hp} {α : List Addr} {S : Sto} {i : Nat} {ds : List D} {v : V} (h : HR T H α S) (r : Rep T H α (.ref i) v) (e : cellL S i = some ds) :
    ∃ a vs, v = .ref a ∧ α[i]? = some a ∧ H a = some (.lst vs) ∧ RepL T H α ds vs := by
  unfold cellL at e
  split at e
  · rename_i ds' q
    cases e
    obtain ⟨a, rfl, h1⟩ := r
    obtain ⟨a', u, e2, e3, vs, rfl, e4⟩ := h.cell _ _ q
    rw [h1] at e2; cases e2
    exact ⟨a, vs, rfl, h1, e3, e4⟩
  · cases e
/-- a tracked list, read -/
def trkL (S : Sto) : D → Option (List D)
  | .lst ds => some ds
  | .ref i => cellL S i
  | _ => none
theorem trkL_ok {H : Hp} {α : List Addr} {S : Sto} {d : D} {ds : List D} {v : V} (h : HR T H α S) (r : Rep T H α d v) (e : trkL S d = some ds) :
    ∃ a vs, v = .ref a ∧ H a = some (.lst vs) ∧ RepL T H α ds vs := by
  cases d with
  | lst es =>
    cases e
    obtain ⟨a, vs, rfl, h1, h2⟩ := r
    exact ⟨a, vs, rfl, h1.1, h2⟩
  | ref i =>
    obtain ⟨a, vs, e1, _, e2, e3⟩ := cellL_ok h r e
    exact ⟨a, vs, e1, e2, e3⟩
  | _ => cases e
end
/-! ### arithmetic -/
def addD : OpF := fun S ds => match ds with
  | [.int i, .int j] => some (.int (i + j), S)
  | [.str x, .str y] => if x.length + y.length ≤ sizeLine then some (.str (x ++ y), S) else none
  | [.tup a, .tup b] => if a.length + b.length ≤ sizeLine then some (.tup (a ++ b), S) else none
  | [x, y] => match trkL S x, trkL S y with
    | some a, some b => if a.length + b.length ≤ sizeLine then some (.lst (a ++ b), S) else none
    | _, _ => none
  | _ => none
def subD : OpF := fun S ds => match ds with
  | [.int i, .int j] => some (.int (i - j), S)
  | _ => none
instance (i j : Int) : Decidable (CMul i j) := by unfold CMul; infer_instance
instance (i j : Int) : Decidable (CDivN i j) := by unfold CDivN; infer_instance
def mulD : OpF := fun S ds => match ds with
  | [.int i, .int j] => if CMul i j then some (.int (i * j), S) else none
  | [.tup a, .int k] => if k = 1 then some (.tup a, S) else if a ≠ [] ∧ 2 ≤ k ∧ k ≤ 1000 ∧ a.length ≤ 1000 then some (.tup (List.replicate k.toNat a).flatten, S) else none
  | [.lst a, .int k] => if 0 ≤ k ∧ k ≤ 1000 ∧ a.length ≤ 1000 then some (.lst (List.replicate k.toNat a).flatten, S) else none
  | _ => none
def modD : OpF := fun S ds => match ds with
  | [.int i, .int j] => if j ≠ 0 then some (.int (i.fmod j), S) else none
  | _ => none
def fdivD : OpF := fun S ds => match ds with
  | [.int i, .int j] => if CDivN i j then some (.int (i.fdiv j), S) else none
  | _ => none
section
variable {X : Cx} {T : TW}
theorem OpR.imp {f : Value → Value → Sem Value} {r r' : R2} (h : OpR X f r) (k : ∀ x y H Q, r' x y H Q → r x y H Q) : OpR X f r' := fun pins s σ H x y v u Q I rx ry q => h pins s σ H x y v u Q I rx ry (k _ _ _ _ q)
theorem OpR.cases {f : Value → Value → Sem Value} {r' : R2} (h : ∀ x y H Q, r' x y H Q → ∃ r, OpR X f r ∧ r x y H Q) : OpR X f r' := fun pins s σ H x y v u Q I rx ry q => by
  obtain ⟨r, h1, h2⟩ := h x y H Q q
  exact h1 pins s σ H x y v u Q I rx ry h2
theorem CallR.cases {f : Value} {r' : List V → Hp → VK → Prop} (h : ∀ xs H Q, r' xs H Q → ∃ r, CallR X f r ∧ r xs H Q) : CallR X f r' := fun pins s σ H xs us Q I rx q => by
  obtain ⟨r, h1, h2⟩ := h xs H Q q
  exact h1 pins s σ H xs us Q I rx h2

theorem RepL.one {H : Hp} {α : List Addr} {d : D} {vs : List V} (h : RepL T H α [d] vs) : ∃ v, vs = [v] ∧ Rep T H α d v := by
  obtain ⟨v, r, rfl, h1, h2⟩ := h
  cases h2
  exact ⟨v, rfl, h1⟩
theorem RepL.two {H : Hp} {α : List Addr} {d e : D} {vs : List V} (h : RepL T H α [d, e] vs) : ∃ v w, vs = [v, w] ∧ Rep T H α d v ∧ Rep T H α e w := by
  obtain ⟨v, r, rfl, h1, h2⟩ := h
  obtain ⟨w, rfl, h3⟩ := RepL.one h2
  exact ⟨v, w, rfl, h1, h3⟩
theorem op_add' (hK : X.K = T.K) : OpR X (binaryOp .Add) (rC2 T addD) := by
  refine OpR.cases fun x y H Q ⟨α, S, ds, r, S', h, rs, e, q⟩ => ?_
  unfold addD at e
  split at e
  · cases e
    obtain ⟨v, w, e, h1, h2⟩ := rs.two
    cases e; cases h1; cases h2
    exact ⟨_, op_add, _, _, rfl, rfl, fin0 h q rfl⟩
  · split at e
    · rename_i hl
      cases e
      obtain ⟨v, w, e, h1, h2⟩ := rs.two
      cases e; cases h1; cases h2
      exact ⟨_, op_add_str, _, _, rfl, rfl, hl, fin0 h q rfl⟩
    · cases e
  · rename_i a b
    split at e
    · rename_i hl
      cases e
      obtain ⟨v, w, e, h1, h2⟩ := rs.two
      cases e
      obtain ⟨p1, vs, rfl, l1, r1⟩ := h1
      obtain ⟨p2, ws, rfl, l2, r2⟩ := h2
      refine ⟨_, op_catA, p1, p2, vs, ws, rfl, rfl, hK ▸ l1.sq, hK ▸ l2.sq, by rw [← r1.length, ← r2.length]; exact hl, fun ev => ?_, fun _ ew => ?_, fun _ _ p hp => finT h q (r1.append r2) hp⟩
      · subst ev
        have : a = [] := List.eq_nil_of_length_eq_zero (by rw [r1.length]; rfl)
        subst this
        exact fin0 h q ⟨p2, ws, rfl, l2, r2⟩
      · subst ew
        have : b = [] := List.eq_nil_of_length_eq_zero (by rw [r2.length]; rfl)
        subst this
        rw [List.append_nil] at q
        exact fin0 h q ⟨p1, vs, rfl, l1, r1⟩
    · cases e
  · split at e
    · rename_i a b e1 e2
      split at e
      · rename_i hl
        cases e
        obtain ⟨v, w, e, h1, h2⟩ := rs.two
        cases e
        obtain ⟨p1, vs, rfl, l1, r1⟩ := trkL_ok h h1 e1
        obtain ⟨p2, ws, rfl, l2, r2⟩ := trkL_ok h h2 e2
        exact ⟨_, op_cat, p1, p2, vs, ws, rfl, rfl, l1, l2, by rw [← r1.length, ← r2.length]; exact hl, fun p hp => finL h q (r1.append r2) hp⟩
      · cases e
    · cases e
  · cases e
theorem op_sub' : OpR X (binaryOp .Sub) (rC2 T subD) := by
  refine OpR.cases fun x y H Q ⟨α, S, ds, r, S', h, rs, e, q⟩ => ?_
  unfold subD at e
  split at e
  · cases e
    obtain ⟨v, w, e, h1, h2⟩ := rs.two
    cases e; cases h1; cases h2
    exact ⟨_, op_sub, _, _, rfl, rfl, fin0 h q rfl⟩
  · cases e
section
set_option maxHeartbeats 4000000
open PySem.Spec PyProof.Rows
theorem tuple_mul1 (l : Addr) (items : Array Value) (n : Nat) (dd : Option Addr) (sl : Array (Option Value)) (x : Int) (u : Tok) (c0 : (decide (x < -(2 ^ 63)) || decide (x ≥ 2 ^ 63)) = false) (c1 : (items.isEmpty || x == 1) = true) :
    Meets (Builtin.«tuple.__mul__» ⟨[.ref l, .int x u], []⟩) (fun _ R s => s.heap.get? l = some { cls := .type "tuple", dict := dd, data := .seq items n, slots := sl } ∧ R (.ok (.ret (.ref l))) s) :=
  .of_wp fun prog w A R s h => by
    obtain ⟨hp, g, d, tk, os⟩ := s
    obtain ⟨hl, h⟩ := h
    have f1 := AutoSeq1.idx_int
    wp_walk using wpAny_loadPart' hl
    refine wpAny_ite_false (decide_eq_false (by rw [c0]; exact Bool.false_ne_true)) ?_
    wp_walk using wpAny_loadPart' hl
    all_goals exact ⟨_, rfl, h⟩
theorem op_rep1 {X : Cx} : OpR X (binaryOp .Mult) (fun x y H Q => ∃ l xs, x = .ref l ∧ y = .int 1 ∧ SqT X.K H l xs ∧ Q (.ref l) H) := by
  intro pins s σ H x y v u Q I rx ry h
  obtain ⟨l, xs, rfl, rfl, hT, q⟩ := h
  cases rx
  obtain ⟨t, rfl⟩ := ry
  obtain ⟨its, r, ⟨⟨cls, dd, data, sl⟩, ho, hc, n, hd⟩, hs⟩ := I.tuple hT
  simp only at hc hd
  subst hc hd
  have c0 : (decide ((1 : Int) < -(2 ^ 63)) || decide ((1 : Int) ≥ 2 ^ 63)) = false := by decide
  have c1 : (its.toArray.isEmpty || (1 : Int) == 1) = true := by simp
  refine wpAny_binaryOp_repeat_ref (T := "tuple") (U := "int") (by decide) ⟨_, ho, rfl⟩ (fun s' => typeIs_int s' 1 t) noFill_tuple_mul PySem.F.fills_int_mul PySem.F.slot_int_rmul repeat_tuple PySem.F.slot_int_index.lookup
    (call_meets PySem.F.slot_int_rmul (typeIs_int s 1 t) PySem.F.entry_int_rmul (PySem.F.args_int_rmul_2 _ _) (int_rmul_tuple 1 t l its.toArray n dd sl)
      ⟨ho, rfl, ⟨_, ho, rfl⟩, call_meets PySem.F.slot_tuple_mul ⟨_, ho, rfl⟩ PySem.F.entry_tuple_mul (PySem.F.args_tuple_mul_2 _ _) (tuple_mul1 l its.toArray n dd sl 1 t c0 c1) ⟨ho, ?_⟩⟩)
  exact ⟨.ref l, _, I, rfl, q⟩
end
theorem RepL.rep {H : Hp} {α : List Addr} {ds : List D} {vs : List V} (h : RepL T H α ds vs) : ∀ n : Nat, RepL T H α (List.replicate n ds).flatten (List.replicate n vs).flatten
  | 0 => rfl
  | n + 1 => by
    rw [List.replicate_succ, List.replicate_succ, List.flatten_cons, List.flatten_cons]
    exact h.append (RepL.rep h n)
theorem op_mul' (hK : X.K = T.K) : OpR X (binaryOp .Mult) (rC2 T mulD) := by
  refine OpR.cases fun x y H Q ⟨α, S, ds, r, S', h, rs, e, q⟩ => ?_
  unfold mulD at e
  split at e
  · split at e
    · rename_i hc
      cases e
      obtain ⟨v, w, e, h1, h2⟩ := rs.two
      cases e; cases h1; cases h2
      exact ⟨_, op_mul, _, _, rfl, rfl, hc, fin0 h q rfl⟩
    · cases e
  · split at e
    · rename_i a k hk1
      cases e
      obtain ⟨v, w, e, h1, h2⟩ := rs.two
      cases e; cases h2
      subst hk1
      obtain ⟨p1, vs, rfl, l1, r1⟩ := id h1
      exact ⟨_, op_rep1, p1, vs, rfl, rfl, hK ▸ l1.sq, fin0 h q h1⟩
    split at e
    · rename_i a k _ hc
      cases e
      obtain ⟨v, w, e, h1, h2⟩ := rs.two
      cases e; cases h2
      obtain ⟨p1, vs, rfl, l1, r1⟩ := h1
      exact ⟨_, op_repT, p1, k, vs, rfl, rfl, hK ▸ l1.sq, fun e => hc.1 (by subst e; exact List.eq_nil_of_length_eq_zero r1.length), hc.2.1, hc.2.2.1, by rw [← r1.length]; exact hc.2.2.2, fun p hp => finT h q (RepL.rep r1 k.toNat) hp⟩
    · cases e
  · split at e
    · rename_i a k hc
      cases e
      obtain ⟨v, w, e, h1, h2⟩ := rs.two
      cases e; cases h2
      obtain ⟨p1, vs, rfl, l1, r1⟩ := h1
      have hzl : vs.length * k.toNat ≤ sizeLine := by
        rw [sizeLine_eq, ← r1.length]
        have a1 : a.length * k.toNat ≤ 1000 * 1000 := Nat.mul_le_mul hc.2.2 (by omega)
        omega
      exact ⟨_, op_rep, p1, k, vs, rfl, rfl, l1.1, by omega, by omega, hzl, fun p hp => finL h q (RepL.rep r1 k.toNat) hp⟩
    · cases e
  · cases e
theorem op_mod' : OpR X (binaryOp .Mod) (rC2 T modD) := by
  refine OpR.cases fun x y H Q ⟨α, S, ds, r, S', h, rs, e, q⟩ => ?_
  unfold modD at e
  split at e
  · split at e
    · rename_i hc
      cases e
      obtain ⟨v, w, e, h1, h2⟩ := rs.two
      cases e; cases h1; cases h2
      exact ⟨_, op_modN, _, _, rfl, rfl, hc, fin0 h q rfl⟩
    · cases e
  · cases e
theorem op_fdiv' : OpR X (binaryOp .FloorDiv) (rC2 T fdivD) := by
  refine OpR.cases fun x y H Q ⟨α, S, ds, r, S', h, rs, e, q⟩ => ?_
  unfold fdivD at e
  split at e
  · split at e
    · rename_i hc
      cases e
      obtain ⟨v, w, e, h1, h2⟩ := rs.two
      cases e; cases h1; cases h2
      exact ⟨_, op_fdivN, _, _, rfl, rfl, hc, fin0 h q rfl⟩
    · cases e
  · cases e

/-! ### comparisons -/
def eqD : OpF := fun S ds => match ds with
  | [a, b] => match a.py S, b.py S with
    | some p, some q => if SeqAt.shaped p = true ∧ SeqAt.shaped q = true then some (.bl (PyData.eqv p q), S) else none
    | _, _ => none
  | _ => none
def neD : OpF := fun S ds => match ds with
  | [a, b] => match a.py S, b.py S with
    | some p, some q => if SeqAt.shaped p = true ∧ SeqAt.shaped q = true then some (.bl (!PyData.eqv p q), S) else none
    | _, _ => none
  | _ => none
theorem op_eq' (hK : X.K = T.K) (hu : X.A.units + 64 < cLine) : OpR X (compareOp .Eq) (rC2 T eqD) := by
  refine OpR.cases fun x y H Q ⟨α, S, ds, r, S', h, rs, e, q⟩ => ?_
  unfold eqD at e
  split at e
  · split at e
    · rename_i p p' e1 e2
      split at e
      · rename_i hc
        cases e
        obtain ⟨v, w, e, h1, h2⟩ := rs.two
        cases e
        exact ⟨_, op_eqD hu, p, p', hK ▸ dp h h1 e1, hK ▸ dp h h2 e2, hc.1, hc.2, fin0 h q rfl⟩
      · cases e
    · cases e
  · cases e
theorem op_ne' (hK : X.K = T.K) (hu : X.A.units + 64 < cLine) : OpR X (compareOp .NotEq) (rC2 T neD) := by
  refine OpR.cases fun x y H Q ⟨α, S, ds, r, S', h, rs, e, q⟩ => ?_
  unfold neD at e
  split at e
  · split at e
    · rename_i p p' e1 e2
      split at e
      · rename_i hc
        cases e
        obtain ⟨v, w, e, h1, h2⟩ := rs.two
        cases e
        exact ⟨_, op_neD hu, p, p', hK ▸ dp h h1 e1, hK ▸ dp h h2 e2, hc.1, hc.2, fin0 h q rfl⟩
      · cases e
    · cases e
  · cases e
end
end NT
namespace NT
open PySem L2
section
variable {X : Cx} {T : TW}

/-! ### order -/
def ordOk (p q : PyData) : Bool := PySem.W.alike p q && (match p with | .none => false | _ => true) && decide (p.depth ≤ 60)
theorem ordOk_iff {p q : PyData} (h : ordOk p q = true) : PySem.W.alike p q = true ∧ p ≠ .none ∧ p.depth ≤ 60 := by
  unfold ordOk at h
  simp only [Bool.and_eq_true, decide_eq_true_eq] at h
  obtain ⟨⟨h1, h2⟩, h3⟩ := h
  refine ⟨h1, ?_, h3⟩
  rintro rfl
  cases h2
def ordD (f : PyData → PyData → Bool) : OpF := fun S ds => match ds with
  | [a, b] => match a.py S, b.py S with
    | some p, some q => if ordOk p q = true then some (.bl (f p q), S) else none
    | _, _ => none
  | _ => none
theorem op_ord {op : CmpOp} {f : PyData → PyData → Bool} (hK : X.K = T.K) (hu : X.A.units + 64 < cLine)
    (rule : ∀ {E : Value → Shared → Prop} {s : Shared} {a b : Value} {da db : PyData} {as bs : List Addr} {Q : Value → Shared → Prop}, Reads s.heap a da as → Reads s.heap b db bs → PySem.W.alike da db = true → da ≠ .none → X.A.units + min da.depth db.depth < cLine → Q (.bool (f da db)) s → wpAny (model X.prog X.w) X.A (compareOp op a b) Q E s) :
    OpR X (compareOp op) (rC2 T (ordD f)) := by
  intro pins s σ H x y v u Q I rx ry h
  obtain ⟨α, S, ds, r, S', h, rs, e, q⟩ := h
  unfold ordD at e
  split at e
  · split at e
    · rename_i p p' e1 e2
      split at e
      · rename_i hc
        cases e
        obtain ⟨v', w', e, h1, h2⟩ := rs.two
        cases e
        obtain ⟨c1, c2, c3⟩ := ordOk_iff hc
        obtain ⟨as, r1⟩ := Dp.reads I p _ _ (hK ▸ dp h h1 e1) rx
        obtain ⟨bs, r2⟩ := Dp.reads I p' _ _ (hK ▸ dp h h2 e2) ry
        refine rule r1 r2 c1 c2 ?_ ⟨.bl _, H, I, rfl, fin0 h q rfl⟩
        have := Nat.min_le_left p.depth p'.depth
        omega
      · cases e
    · cases e
  · cases e
theorem op_lt' (hK : X.K = T.K) (hu : X.A.units + 64 < cLine) : OpR X (compareOp .Lt) (rC2 T (ordD fun p q => PySem.W.dataLt p q)) := op_ord hK hu fun r1 r2 h1 h2 h3 h4 => PySem.W.lt_data r1 r2 h1 h2 h3 h4
theorem op_gt' (hK : X.K = T.K) (hu : X.A.units + 64 < cLine) : OpR X (compareOp .Gt) (rC2 T (ordD fun p q => PySem.W.dataLt q p)) := op_ord hK hu fun r1 r2 h1 h2 h3 h4 => PySem.W.gt_data r1 r2 h1 h2 h3 h4
theorem op_le' (hK : X.K = T.K) (hu : X.A.units + 64 < cLine) : OpR X (compareOp .LtE) (rC2 T (ordD fun p q => !PySem.W.dataLt q p)) := op_ord hK hu fun r1 r2 h1 h2 h3 h4 => PySem.W.le_data r1 r2 h1 h2 h3 h4
theorem op_ge' (hK : X.K = T.K) (hu : X.A.units + 64 < cLine) : OpR X (compareOp .GtE) (rC2 T (ordD fun p q => !PySem.W.dataLt p q)) := op_ord hK hu fun r1 r2 h1 h2 h3 h4 => PySem.W.ge_data r1 r2 h1 h2 h3 h4

/-! ### is None, is True -/
def D.isN : D → Bool
  | .non => true
  | _ => false
def isD : OpF := fun S ds => match ds with
  | [a, .non] => some (.bl a.isN, S)
  | [.bl a, .bl b] => some (.bl (decide (a = b)), S)
  | _ => none
def isnotD : OpF := fun S ds => match ds with
  | [a, .non] => some (.bl (!a.isN), S)
  | [.bl a, .bl b] => some (.bl (!decide (a = b)), S)
  | _ => none
theorem isNon {H : Hp} {α : List Addr} {d : D} {v : V} (r : Rep T H α d v) : decide (v = .non) = d.isN := by
  cases d with
  | non => cases r; rfl
  | bl b => cases r; rfl
  | int i => cases r; rfl
  | str x => cases r; rfl
  | tup ds => obtain ⟨a, vs, rfl, _⟩ := r; rfl
  | pt ds => obtain ⟨a, vs, rfl, _⟩ := r; rfl
  | lst ds => obtain ⟨a, vs, rfl, _⟩ := r; rfl
  | wt ds => obtain ⟨a, vs, rfl, _⟩ := r; rfl
  | wl ds => obtain ⟨a, vs, rfl, _⟩ := r; rfl
  | ref i => obtain ⟨a, rfl, _⟩ := r; rfl
  | fn i => cases r; rfl
  | ty n => cases r; rfl
theorem op_is' : OpR X (compareOp .Is) (rC2 T isD) := by
  refine OpR.cases fun x y H Q ⟨α, S, ds, r, S', h, rs, e, q⟩ => ?_
  unfold isD at e
  split at e
  · cases e
    obtain ⟨v, w, e, h1, h2⟩ := rs.two
    cases e; cases h2
    refine ⟨_, op_isN, rfl, ?_⟩
    rw [isNon h1]
    exact fin0 h q rfl
  · cases e
    obtain ⟨v, w, e, h1, h2⟩ := rs.two
    cases e; cases h1; cases h2
    exact ⟨_, op_is_bl, _, _, rfl, rfl, fin0 h q rfl⟩
  · cases e
theorem op_isnot' : OpR X (compareOp .IsNot) (rC2 T isnotD) := by
  refine OpR.cases fun x y H Q ⟨α, S, ds, r, S', h, rs, e, q⟩ => ?_
  unfold isnotD at e
  split at e
  · cases e
    obtain ⟨v, w, e, h1, h2⟩ := rs.two
    cases e; cases h2
    refine ⟨_, op_notN, rfl, ?_⟩
    rw [isNon h1]
    exact fin0 h q rfl
  · cases e
    obtain ⟨v, w, e, h1, h2⟩ := rs.two
    cases e; cases h1; cases h2
    exact ⟨_, op_isnot_bl, _, _, rfl, rfl, fin0 h q rfl⟩
  · cases e

/-! ### dicts -/
def look {κ : Type} [DecidableEq κ] (kvs : List (κ × D)) (k : κ) : Option D := (kvs.find? fun kv => decide (kv.1 = k)).map (·.2)
def putD {κ : Type} [DecidableEq κ] (kvs : List (κ × D)) (k : κ) (v : D) : List (κ × D) :=
  if (kvs.any fun kv => decide (kv.1 = k)) = true then kvs.map fun kv => if kv.1 = k then (kv.1, v) else kv else kvs ++ [(k, v)]
def dropD {κ : Type} [DecidableEq κ] (kvs : List (κ × D)) (k : κ) : List (κ × D) := kvs.filter fun kv => decide (kv.1 ≠ k)
def keyOf : D → Option Key
  | .int i => some (.inl i)
  | .str x => some (.inr x)
  | _ => none
def keysOf : List D → Option (List Key)
  | [] => some []
  | d :: ds => match keyOf d, keysOf ds with
    | some k, some ks => some (k :: ks)
    | _, _ => none
def RO (T : TW) (H : Hp) (α : List Addr) : Option D → Option V → Prop
  | some d, r => ∃ v, r = some v ∧ Rep T H α d v
  | none, r => r = none
theorem RO.isSome {H : Hp} {α : List Addr} : ∀ {o : Option D} {r : Option V}, RO T H α o r → r.isSome = o.isSome
  | some _, _, ⟨v, e, _⟩ => by rw [e]; rfl
  | none, _, e => by rw [show _ = none from e]; rfl
section
variable {H : Hp} {α : List Addr}
theorem keyOf_rep {d : D} {v : V} {k : Key} (r : Rep T H α d v) (e : keyOf d = some k) : v = kV k := by
  unfold keyOf at e
  split at e <;> cases e <;> cases r <;> rfl
theorem keysOf_rep : ∀ {ds : List D} {vs : List V} {ks : List Key}, RepL T H α ds vs → keysOf ds = some ks → vs = ks.map kV
  | [], _, _, r, e => by cases e; cases r; rfl
  | d :: ds, _, _, r, e => by
    obtain ⟨v, vs, rfl, h1, h2⟩ := r
    rw [keysOf] at e
    split at e
    · rename_i k ks e1 e2
      cases e
      rw [keyOf_rep h1 e1, keysOf_rep h2 e2]; rfl
    · cases e
variable {κ : Type} [DecidableEq κ]
theorem RepKV.look : ∀ {kvs : List (κ × D)} {ws : List (κ × V)} (k : κ), RepKV T H α kvs ws → RO T H α (NT.look kvs k) (valV ws k)
  | [], _, k, r => by cases r; rfl
  | kd :: kvs, _, k, r => by
    obtain ⟨v, ws, rfl, h1, h2⟩ := r
    by_cases hk : kd.1 = k
    · subst hk
      simp only [NT.look, List.find?_cons, decide_true, Option.map_some]
      exact ⟨v, valV_pos rfl, h1⟩
    · have := RepKV.look k h2
      simp only [NT.look, List.find?_cons, hk, decide_false] at this ⊢
      rw [valV_neg (p := (kd.1, v)) hk]
      exact this
theorem RepKV.length : ∀ {kvs : List (κ × D)} {ws : List (κ × V)}, RepKV T H α kvs ws → kvs.length = ws.length
  | [], _, r => by cases r; rfl
  | kd :: kvs, _, r => by
    obtain ⟨v, ws, rfl, h1, h2⟩ := r
    simp [RepKV.length h2]
theorem RepKV.anyk : ∀ {kvs : List (κ × D)} {ws : List (κ × V)} (k : κ), RepKV T H α kvs ws → (kvs.any fun kv => decide (kv.1 = k)) = (ws.any fun kv => decide (kv.1 = k))
  | [], _, k, r => by cases r; rfl
  | kd :: kvs, _, k, r => by
    obtain ⟨v, ws, rfl, h1, h2⟩ := r
    simp only [List.any_cons, RepKV.anyk k h2]
theorem RepKV.repl {d : D} {v : V} (hd : Rep T H α d v) : ∀ {kvs : List (κ × D)} {ws : List (κ × V)} (k : κ), RepKV T H α kvs ws → RepKV T H α (kvs.map fun kv => if kv.1 = k then (kv.1, d) else kv) (ws.map fun kv => if kv.1 = k then (kv.1, v) else kv)
  | [], _, k, r => by cases r; rfl
  | kd :: kvs, _, k, r => by
    obtain ⟨w, ws, rfl, h1, h2⟩ := r
    simp only [List.map_cons]
    by_cases hk : kd.1 = k
    · simp only [hk, if_true]
      exact ⟨v, _, rfl, hd, RepKV.repl hd k h2⟩
    · simp only [hk, if_false]
      exact ⟨w, _, rfl, h1, RepKV.repl hd k h2⟩
theorem RepKV.snoc {d : D} {v : V} (hd : Rep T H α d v) (k : κ) : ∀ {kvs : List (κ × D)} {ws : List (κ × V)}, RepKV T H α kvs ws → RepKV T H α (kvs ++ [(k, d)]) (ws ++ [(k, v)])
  | [], _, r => by cases r; exact ⟨v, [], rfl, hd, rfl⟩
  | kd :: kvs, _, r => by
    obtain ⟨w, ws, rfl, h1, h2⟩ := r
    exact ⟨w, _, rfl, h1, RepKV.snoc hd k h2⟩
theorem RepKV.put {d : D} {v : V} (hd : Rep T H α d v) {kvs : List (κ × D)} {ws : List (κ × V)} (k : κ) (r : RepKV T H α kvs ws) : RepKV T H α (putD kvs k d) (putK ws k v) := by
  unfold putD putK
  rw [RepKV.anyk k r]
  split
  · exact RepKV.repl hd k r
  · exact RepKV.snoc hd k r
theorem RepKV.drop : ∀ {kvs : List (κ × D)} {ws : List (κ × V)} (k : κ), RepKV T H α kvs ws → RepKV T H α (dropD kvs k) (dropK ws k)
  | [], _, k, r => by cases r; rfl
  | kd :: kvs, _, k, r => by
    obtain ⟨w, ws, rfl, h1, h2⟩ := r
    unfold dropD dropK
    by_cases hk : kd.1 = k
    · simp only [List.filter_cons, hk, ne_eq, not_true_eq_false, decide_false]
      exact RepKV.drop k h2
    · simp only [List.filter_cons, hk, ne_eq, not_false_eq_true, decide_true, if_true]
      exact ⟨w, _, rfl, h1, RepKV.drop k h2⟩
end
/-- what a dict holds for a key: none: no dict, no key -/
def dGet (S : Sto) (d k : D) : Option (Option D) := match d with
  | .ref i => match (S[i]?).map unl with
    | some (.dK kvs) => (keyOf k).map fun kk => look kvs kk
    | some (.dT kvs) => match k with
      | .tup ds => (keysOf ds).map fun kk => look kvs kk
      | _ => none
    | _ => none
  | _ => none
theorem dGet_ok {H : Hp} {α : List Addr} {S : Sto} {d k : D} {x y : V} {o : Option D} (h : HR T H α S) (r1 : Rep T H α d x) (r2 : Rep T H α k y) (e : dGet S d k = some o) :
    ∃ a r, x = .ref a ∧ DGet H a y r ∧ RO T H α o r := by
  unfold dGet at e
  split at e
  · obtain ⟨a, rfl, h1⟩ := r1
    split at e
    · rename_i kvs q
      obtain ⟨kk, e1, rfl⟩ := Option.map_eq_some_iff.mp e
      obtain ⟨a', u, e2, e3, ws, rfl, e4⟩ := h.cellR q
      rw [h1] at e2; cases e2
      refine ⟨a, valV ws kk, rfl, .inl ⟨ws, kk, e3, keyOf_rep r2 e1, rfl⟩, ?_⟩
      exact e4.look kk
    · rename_i kvs q
      split at e
      · rename_i ds
        obtain ⟨kk, e1, rfl⟩ := Option.map_eq_some_iff.mp e
        obtain ⟨a', u, e2, e3, ws, rfl, e4⟩ := h.cellR q
        rw [h1] at e2; cases e2
        obtain ⟨b, vs, rfl, l1, l2⟩ := r2
        refine ⟨a, valV ws kk, rfl, .inr ⟨ws, kk, b, e3, rfl, keysOf_rep l2 e1 ▸ l1.1, rfl⟩, ?_⟩
        exact e4.look kk
      · cases e
    · cases e
  · cases e

/-! ### in -/
def strIn (i j : Str) : Bool := !(Builtin.Str.occurrences j i 0 j.length 1).isEmpty
def inB (S : Sto) (x c : D) : Option Bool := match dGet S c x with
  | some o => some o.isSome
  | none => match asSeq S c with
    | some (_, ds) => match x.py S, D.py0L ds with
      | some p, some ps => if SeqAt.shaped p = true ∧ SeqAt.shaped (.list ps) = true then some (ps.any fun z => PyData.eqv z p) else none
      | _, _ => none
    | none => match x, c with
      | .str i, .str j => some (strIn i j)
      | _, _ => none
def inG (g : Bool → Bool) : OpF := fun S ds => match ds with
  | [x, c] => (inB S x c).map fun b => (.bl (g b), S)
  | _ => none
theorem op_in_gen {op : CmpOp} {g : Bool → Bool} (hK : X.K = T.K)
    (r1 : ∀ {pins σ H s a y o u} {Q : Value → Shared → Prop}, Inv X pins σ H s → DGet H a y o → RelV y u → (∀ s', Inv X pins σ H s' → Q (.bool (g o.isSome)) s') → wpAny (model X.prog X.w) X.A (compareOp op u (.ref a)) Q X.xe s)
    (r2 : ∀ {s : Shared} {c x : Value} {xs : List PyData} {d : PyData} {as bs : List Addr} {Q : Value → Shared → Prop}, Reads s.heap c (.list xs) as → Reads s.heap x d bs → PyData.canLayAll0 xs = true → d.canLay0 = true → X.A.units + 1 + min (PyData.depthAll xs) d.depth < cLine → Q (.bool (g (xs.any fun y => PyData.eqv y d))) s → wpAny (model X.prog X.w) X.A (compareOp op x c) Q X.xe s)
    (r3 : ∀ {s : Shared} {c x : Value} {xs : List PyData} {d : PyData} {as bs : List Addr} {Q : Value → Shared → Prop}, Reads s.heap c (.tuple xs) as → Reads s.heap x d bs → PyData.canLayAll0 xs = true → d.canLay0 = true → X.A.units + 1 + min (PyData.depthAll xs) d.depth < cLine → Q (.bool (g (xs.any fun y => PyData.eqv y d))) s → wpAny (model X.prog X.w) X.A (compareOp op x c) Q X.xe s)
    (r4 : OpR X (compareOp op) (fun x y H Q => ∃ i j, x = .str i ∧ y = .str j ∧ Q (.bl (g (strIn i j))) H)) (hu : X.A.units + 65 < cLine) :
    OpR X (compareOp op) (rC2 T (inG g)) := by
  intro pins s σ H x y v u Q I rx ry hh
  obtain ⟨α, S, ds, r, S', h, rs, e, q⟩ := hh
  unfold inG at e
  split at e
  · rename_i dx dc
    obtain ⟨v', w', ee, h1, h2⟩ := rs.two
    cases ee
    obtain ⟨b, e1, e2⟩ := Option.map_eq_some_iff.mp e
    cases e2
    unfold inB at e1
    split at e1
    · rename_i o eo
      cases e1
      obtain ⟨a, r, rfl, dg, ho⟩ := dGet_ok h h2 h1 eo
      cases ry
      refine r1 I dg rx fun s' I' => ⟨.bl _, H, I', rfl, ?_⟩
      rw [ho.isSome]
      exact fin0 h q rfl
    · split at e1
      · rename_i bb ds eq
        split at e1
        · rename_i p ps e2 e3
          split at e1
          · rename_i hc
            cases e1
            obtain ⟨a, vs, rfl, rl, sq⟩ := asSeq_ok h h2 eq
            have da : DpAll T.K H vs ps := dp0L rl e3
            have dx := dp h h1 e2
            rw [← hK] at dx da sq
            obtain ⟨bs, rd⟩ := Dp.reads I p _ _ dx rx
            have c1 := SeqAt.canLay_of_shaped hc.1
            have c2 : PyData.canLayAll0 ps = true := SeqAt.canLay_of_shaped hc.2
            have hd := SeqAt.depth_of_shaped hc.1
            have hm := Nat.min_le_right (PyData.depthAll ps) p.depth
            cases bb with
            | true =>
              obtain ⟨as, ra⟩ := Dp.reads I (.list ps) _ _ (Dp.lst (by simpa using sq) da) ry
              exact r2 ra rd c2 c1 (by omega) ⟨.bl _, H, I, rfl, fin0 h q rfl⟩
            | false =>
              obtain ⟨as, ra⟩ := Dp.reads I (.tuple ps) _ _ (Dp.tup (by simpa using sq) da) ry
              exact r3 ra rd c2 c1 (by omega) ⟨.bl _, H, I, rfl, fin0 h q rfl⟩
          · cases e1
        · cases e1
      · split at e1
        · cases e1
          cases h1; cases h2
          exact r4 pins s σ H _ _ v u Q I rx ry ⟨_, _, rfl, rfl, fin0 h q rfl⟩
        · cases e1
  · cases e
theorem op_in' (hK : X.K = T.K) (hu : X.A.units + 65 < cLine) : OpR X (compareOp .In) (rC2 T (inG fun b => b)) :=
  op_in_gen (g := fun b => b) hK (fun I dg ry k => d_in (by omega) I dg ry k) (fun h1 h2 h3 h4 h5 h6 => SeqAt.in_list_reads h1 h2 h3 h4 h5 h6) (fun h1 h2 h3 h4 h5 h6 => SeqAt.in_tuple_reads h1 h2 h3 h4 h5 h6) op_in_str hu
theorem op_notin' (hK : X.K = T.K) (hu : X.A.units + 65 < cLine) : OpR X (compareOp .NotIn) (rC2 T (inG fun b => !b)) :=
  op_in_gen (g := fun b => !b) hK (fun I dg ry k => d_notIn (by omega) I dg ry k) (fun h1 h2 h3 h4 h5 h6 => SeqAt.notIn_list_reads h1 h2 h3 h4 h5 h6) (fun h1 h2 h3 h4 h5 h6 => SeqAt.notIn_tuple_reads h1 h2 h3 h4 h5 h6) op_notin_str hu
end
end NT
namespace NT
open PySem L2
section
variable {X : Cx} {T : TW}
theorem IxR.cases {r' : R2} (h : ∀ x y H Q, r' x y H Q → ∃ r, IxR X r ∧ r x y H Q) : IxR X r' := fun value slice pins s σ H x y v u Q I rx ry q => by
  obtain ⟨r, h1, h2⟩ := h x y H Q q
  exact h1 value slice pins s σ H x y v u Q I rx ry h2
theorem SlR.cases {r' : V → Option Int → Option Int → Hp → VK → Prop} (h : ∀ x lo hi H Q, r' x lo hi H Q → ∃ r, SlR X r ∧ r x lo hi H Q) : SlR X r' := fun pins s σ H x v vl vu lo hi sl Q I rx hs pl pu q => by
  obtain ⟨r, h1, h2⟩ := h x lo hi H Q q
  exact h1 pins s σ H x v vl vu lo hi sl Q I rx hs pl pu h2

/-! ### subscripts -/
open PySem.Spec PyProof.Rows in
theorem ix_dict (hu : X.A.units + 1 < cLine) : IxR X (fun x y H Q => ∃ a v, x = .ref a ∧ DGet H a y (some v) ∧ Q v H) := by
  intro value slice pins s σ H x y v u Q I rx ry h hs
  obtain ⟨a, z, rfl, g, q⟩ := h
  cases rx
  have hT := dict_typeIs I g
  unfold subscriptTail
  refine wpAny_bind ?_
  rw [getitemInPython_of_ne hT.not_modules]
  refine wpAny_bind (wpAny_specialOf hT PySem.F.slot_dict_getitem.lookup ?_)
  have fin : wpAny (model X.prog X.w) X.A (subscripted slice false (.ref a) u) (fun r s₃ => wpAny (model X.prog X.w) X.A (letTemporaryGo value (.ref a) r >>= fun _ => pure r) (EP X pins σ Q) X.xe s₃) X.xe s := by
    rw [hs]
    exact wpAny_operating (wpAny_mono (d_getItem (E := X.xe) hu I g ry fun w' s3 I3 rw' => (show EP X pins σ Q w' s3 from ⟨z, H, I3, rw', q⟩)) (fun r s₃ h₃ => wpAny_bind (wpAny_letTemporaryGo (wpAny_pure h₃))) fun _ _ x => x)
  first
    | exact wpAny_pure (wpAny_bind fin)
    | exact wpAny_bind (wpAny_pure (wpAny_bind fin))
    | exact wpAny_bind fin
def idxD : OpF := fun S ds => match ds with
  | [d, k] => match dGet S d k with
    | some (some v) => some (v, S)
    | some none => none
    | none => match d, k with
      | .str z, .int i => if z.length ≤ sizeLine then (atI z.cps.toList i).map fun c => (.str ⟨#[c]⟩, S) else none
      | d, .int i => match asSeq S d with
        | some (_, es) => (atI es i).map fun e => (e, S)
        | none => none
      | _, _ => none
  | _ => none
theorem RepL.atI {H : Hp} {α : List Addr} {ds : List D} {vs : List V} {i : Int} {d : D} (r : RepL T H α ds vs) (e : L2.atI ds i = some d) : ∃ v, L2.atI vs i = some v ∧ Rep T H α d v := by
  unfold L2.atI at e ⊢
  rw [← r.length]
  cases q : ixN ds.length i with
  | none => rw [q] at e; cases e
  | some j =>
    rw [q] at e
    exact r.get e
theorem ix_ok (hK : X.K = T.K) (hu : X.A.units + 1 < cLine) : IxR X (rC2 T idxD) := by
  refine IxR.cases fun x y H Q ⟨α, S, ds, r, S', h, rs, e, q⟩ => ?_
  unfold idxD at e
  split at e
  · obtain ⟨v, w, ee, h1, h2⟩ := rs.two
    cases ee
    split at e
    · rename_i d' e1
      cases e
      obtain ⟨a, o, rfl, g, v', rfl, r'⟩ := dGet_ok h h1 h2 e1
      exact ⟨_, ix_dict hu, a, v', rfl, g, fin0 h q r'⟩
    · cases e
    · split at e
      · rename_i z i _
        split at e
        · rename_i hl
          obtain ⟨c, e1, e2⟩ := Option.map_eq_some_iff.mp e
          cases e2; cases h1; cases h2
          exact ⟨_, ix_str, z, i, c, rfl, rfl, hl, e1, fin0 h q rfl⟩
        · cases e
      · rename_i d i _ _
        split at e
        · rename_i b es e1
          obtain ⟨d', e2, e3⟩ := Option.map_eq_some_iff.mp e
          cases e3; cases h2
          obtain ⟨a, vs, rfl, rl, sq⟩ := asSeq_ok h h1 e1
          obtain ⟨v', e4, r'⟩ := rl.atI e2
          rw [← hK] at sq
          cases b with
          | true => exact ⟨_, ix_list, a, vs, i, v', rfl, rfl, by simpa using sq, e4, fin0 h q r'⟩
          | false => exact ⟨_, ix_tup, a, vs, i, v', rfl, rfl, by simpa using sq, e4, fin0 h q r'⟩
        · cases e
      · cases e
  · cases e

/-! ### slices -/
def cutD (xs : List D) (lo hi : Option Int) : List D := (xs.drop (HT.sIx xs.length 0 lo)).take (HT.sIx xs.length xs.length hi - HT.sIx xs.length 0 lo)
theorem RepL.cut {H : Hp} {α : List Addr} {ds : List D} {vs : List V} (lo hi : Option Int) (r : RepL T H α ds vs) : RepL T H α (cutD ds lo hi) (cutV vs lo hi) := by
  unfold cutD cutV
  rw [r.length]
  exact (r.drop _).take _
def slcF (S : Sto) (d : D) (lo hi : Option Int) : Option D := match asSeq S d with
  | some (true, ds) => some (.lst (cutD ds lo hi))
  | some (false, ds) => match d with
    | .tup _ => some (.tup (cutD ds lo hi))
    | _ => none
  | none => none
def rSlc (T : TW) : V → Option Int → Option Int → Hp → VK → Prop := fun x lo hi H Q =>
  ∃ α S d r, HR T H α S ∧ Rep T H α d x ∧ slcF S d lo hi = some r ∧ ∀ v H' α', Ext H α H' α' → HR T H' α' S → Rep T H' α' r v → Q v H'
theorem cut_whole {ds : List D} {lo hi : Option Int} (h : HT.sIx ds.length 0 lo = 0 ∧ HT.sIx ds.length ds.length hi = ds.length) : cutD ds lo hi = ds := by
  unfold cutD
  rw [h.1, h.2]
  simp
theorem sl_ok (hK : X.K = T.K) : SlR X (rSlc T) := by
  refine SlR.cases fun x lo hi H Q ⟨α, S, d, r, h, rd, e, q⟩ => ?_
  unfold slcF at e
  split at e
  · rename_i ds e1
    cases e
    obtain ⟨a, vs, rfl, rl, sq⟩ := asSeq_ok h rd e1
    rw [← hK] at sq
    exact ⟨_, sl_list, a, vs, rfl, by simpa using sq, fun p hp => finL h q (rl.cut lo hi) hp⟩
  · rename_i ds e1
    split at e
    · cases e
      cases e1
      obtain ⟨a, vs, rfl, l, rl⟩ := id rd
      refine ⟨_, sl_tupA, a, vs, rfl, l.sq, fun hw => ?_, fun _ p hp => finT h q (rl.cut lo hi) hp⟩
      rw [← rl.length] at hw
      rw [cut_whole hw] at q
      exact fin0 h q rd
    · cases e
  · cases e

/-! ### built-in functions -/
def lenD : OpF := fun S ds => match ds with
  | [.str x] => if x.length ≤ sizeLine then some (.int x.length, S) else none
  | [d] => match asSeq S d with
    | some (_, es) => some (.int es.length, S)
    | none => match d with
      | .ref i => match S[i]? with
        | some (.dK kvs) => some (.int kvs.length, S)
        | _ => none
      | _ => none
  | _ => none
theorem call_lenDK : CallR X (.builtin "len") (fun xs H Q => ∃ a kvs, xs = [.ref a] ∧ H a = some (.dK kvs) ∧ Q (.int kvs.length) H) := by
  intro pins s σ H xs us Q I r h
  obtain ⟨a, kvs, rfl, ha, q⟩ := h
  obtain ⟨u, rfl, rx⟩ := vals1 r
  cases rx
  exact d_len I (.inl ha) fun t s' I' => ⟨.int kvs.length, H, I', ⟨_, rfl⟩, q⟩
theorem len_ok (hK : X.K = T.K) : CallR X (.builtin "len") (rC T lenD) := by
  refine CallR.cases fun xs H Q ⟨α, S, ds, r, S', h, rs, e, q⟩ => ?_
  unfold lenD at e
  split at e
  · split at e
    · rename_i hl
      cases e
      obtain ⟨v, rfl, h1⟩ := rs.one
      cases h1
      exact ⟨_, call_len_str, _, rfl, hl, fin0 h q rfl⟩
    · cases e
  · obtain ⟨v, rfl, h1⟩ := rs.one
    split at e
    · rename_i b es e1
      cases e
      obtain ⟨a, vs, rfl, rl, sq⟩ := asSeq_ok h h1 e1
      rw [← hK] at sq
      refine ⟨_, call_len_seq, a, vs, rfl, ?_, by rw [← rl.length]; exact fin0 h q rfl⟩
      cases b with
      | true => exact .inl (by simpa using sq)
      | false => exact .inr (by simpa using sq)
    · split at e
      · split at e
        · rename_i kvs q2
          cases e
          obtain ⟨a, rfl, h2⟩ := h1
          obtain ⟨a', u, e2, e3, ws, rfl, e4⟩ := h.cell _ _ q2
          rw [h2] at e2; cases e2
          exact ⟨_, call_lenDK, a, ws, rfl, e3, by rw [← e4.length]; exact fin0 h q rfl⟩
        · cases e
      · cases e
  · cases e
def absD : OpF := fun S ds => match ds with
  | [.int i] => some (.int (if i < 0 then -i else i), S)
  | _ => none
theorem abs_ok : CallR X (.builtin "abs") (rC T absD) := by
  refine CallR.cases fun xs H Q ⟨α, S, ds, r, S', h, rs, e, q⟩ => ?_
  unfold absD at e
  split at e
  · cases e
    obtain ⟨v, rfl, h1⟩ := rs.one
    cases h1
    exact ⟨_, call_abs, _, rfl, fin0 h q rfl⟩
  · cases e
def tupleD : OpF := fun S ds => match ds with
  | [.tup es] => some (.tup es, S)
  | [d] => match asSeq S d with
    | some (true, es) => some (.tup es, S)
    | _ => none
  | _ => none
theorem tuple_ok (hK : X.K = T.K) : CallR X (.type "tuple") (rC T tupleD) := by
  refine CallR.cases fun xs H Q ⟨α, S, ds, r, S', h, rs, e, q⟩ => ?_
  unfold tupleD at e
  split at e
  · cases e
    obtain ⟨v, rfl, h1⟩ := rs.one
    obtain ⟨a, vs, rfl, l, rl⟩ := id h1
    exact ⟨_, call_tupleT, a, vs, rfl, l.sq, fin0 h q h1⟩
  · obtain ⟨v, rfl, h1⟩ := rs.one
    split at e
    · rename_i es e1
      cases e
      obtain ⟨a, vs, rfl, rl, sq⟩ := asSeq_ok h h1 e1
      rw [← hK] at sq
      exact ⟨_, call_tuple_of, a, vs, rfl, .inl ⟨by simpa using sq, fun p hp => finT h q rl hp⟩⟩
    · cases e
  · cases e
/-- the same, known to the last bit -/
theorem call_tuple_pin : CallR X (.type "tuple") (fun xs H Q => ∃ p ys, xs = [.ref p] ∧ SqL X.K H p ys ∧ ∀ l (o : Obj), o.dict = none → H l = none → Q (.ref l) (upd H l (.frz o (.tup ys)))) := by
  intro pins s σ H xs us Q I r h
  obtain ⟨p, ys, rfl, hq, q⟩ := h
  obtain ⟨u, rfl, rx⟩ := vals1 r
  cases rx
  obtain ⟨its, r', pl, hz⟩ := I.list hq
  have hlen := r'.length
  refine call_tuple_list pl.isList (fun h' kp => ?_) (by simp only [List.size_toArray] <;> omega)
  have I1 : Inv X pins σ H { s with heap := h' } := I.kept (t' := s.toks) kp
  have I2 : Inv X pins σ (upd H h'.objs.size (.frz { cls := .type "tuple", data := .seq its.toArray } (.tup ys))) { s with heap := h'.push { cls := .type "tuple", data := .seq its.toArray } } :=
    I1.laid (t' := s.toks) (fun b o e => Heap.get?_push_of_some _ e) (Nat.le_refl _) (show ObjOk X.prog X.w _ _ _ (.frz { cls := .type "tuple", data := .seq its.toArray } (.tup ys)) from ⟨Heap.get?_push_size _ rfl, hz, its, r', ⟨_, Heap.get?_push_size _ rfl, rfl, _, rfl⟩⟩)
  exact ⟨.ref h'.objs.size, _, I2, rfl, q _ _ rfl (I1.hok.fresh (Nat.le_refl _))⟩
def ptupleD : OpF := fun S ds => match ds with
  | [d] => match asSeq S d with
    | some (true, es) => some (.pt es, S)
    | _ => none
  | _ => none
theorem ptuple_ok (hK : X.K = T.K) : CallR X (.type "tuple") (rC T ptupleD) := by
  refine CallR.cases fun xs H Q ⟨α, S, ds, r, S', h, rs, e, q⟩ => ?_
  unfold ptupleD at e
  split at e
  · obtain ⟨v, rfl, h1⟩ := rs.one
    split at e
    · rename_i es e1
      cases e
      obtain ⟨a, vs, rfl, rl, sq⟩ := asSeq_ok h h1 e1
      rw [← hK] at sq
      exact ⟨_, call_tuple_pin, a, vs, rfl, by simpa using sq, fun p o ho hp => q _ _ α (Ext.laid h hp _) (h.laid hp _) ⟨p, vs, rfl, ⟨o, upd_same, ho, h.fresh hp⟩, rl.ext (Ext.laid h hp _)⟩⟩
    · cases e
  · cases e
def listD : OpF := fun S ds => match ds with
  | [d] => match asSeq S d with
    | some (_, es) => some (.lst es, S)
    | _ => none
  | _ => none
theorem list_ok (hK : X.K = T.K) : CallR X (.type "list") (rC T listD) := by
  refine CallR.cases fun xs H Q ⟨α, S, ds, r, S', h, rs, e, q⟩ => ?_
  unfold listD at e
  split at e
  · obtain ⟨v, rfl, h1⟩ := rs.one
    split at e
    · rename_i b es e1
      cases e
      obtain ⟨a, vs, rfl, rl, sq⟩ := asSeq_ok h h1 e1
      rw [← hK] at sq
      refine ⟨_, call_list_of, a, vs, rfl, ?_, fun p hp => finL h q rl hp⟩
      cases b with
      | true => exact .inl (by simpa using sq)
      | false => exact .inr (by simpa using sq)
    · cases e
  · cases e
def asBls : List D → Option (List Bool)
  | [] => some []
  | .bl b :: ds => (asBls ds).map (b :: ·)
  | _ => none
theorem asBls_ok {H : Hp} {α : List Addr} : ∀ {ds : List D} {bs : List Bool} {vs : List V}, RepL T H α ds vs → asBls ds = some bs → vs = bs.map V.bl
  | [], _, _, r, e => by cases e; cases r; rfl
  | .bl b :: ds, _, _, r, e => by
    obtain ⟨v, vs, rfl, h1, h2⟩ := r
    rw [asBls] at e
    obtain ⟨bs, e1, rfl⟩ := Option.map_eq_some_iff.mp e
    rw [asBls_ok h2 e1, show v = V.bl b from h1]; rfl
  | .non :: _, _, _, _, e => by cases e
  | .int _ :: _, _, _, _, e => by cases e
  | .str _ :: _, _, _, _, e => by cases e
  | .tup _ :: _, _, _, _, e => by cases e
  | .pt _ :: _, _, _, _, e => by cases e
  | .lst _ :: _, _, _, _, e => by cases e
  | .wt _ :: _, _, _, _, e => by cases e
  | .wl _ :: _, _, _, _, e => by cases e
  | .ref _ :: _, _, _, _, e => by cases e
  | .fn _ :: _, _, _, _, e => by cases e
  | .ty _ :: _, _, _, _, e => by cases e
def allD : OpF := fun S ds => match ds with
  | [d] => match asSeq S d with
    | some (true, es) => (asBls es).map fun bs => (.bl (bs.all id), S)
    | _ => none
  | _ => none
def anyD : OpF := fun S ds => match ds with
  | [d] => match asSeq S d with
    | some (true, es) => (asBls es).map fun bs => (.bl (bs.any id), S)
    | _ => none
  | _ => none
theorem all_ok (hK : X.K = T.K) (hc : X.calm = true) : CallR X (.builtin "all") (rC T allD) := by
  refine CallR.cases fun xs H Q ⟨α, S, ds, r, S', h, rs, e, q⟩ => ?_
  unfold allD at e
  split at e
  · obtain ⟨v, rfl, h1⟩ := rs.one
    split at e
    · rename_i es e1
      obtain ⟨bs, e2, e3⟩ := Option.map_eq_some_iff.mp e
      cases e3
      obtain ⟨a, vs, rfl, rl, sq⟩ := asSeq_ok h h1 e1
      rw [← hK] at sq
      rw [asBls_ok rl e2] at sq
      exact ⟨_, cr_all hc, a, bs, rfl, by simpa using sq, fin0 h q rfl⟩
    · cases e
  · cases e
theorem any_ok (hK : X.K = T.K) (hc : X.calm = true) : CallR X (.builtin "any") (rC T anyD) := by
  refine CallR.cases fun xs H Q ⟨α, S, ds, r, S', h, rs, e, q⟩ => ?_
  unfold anyD at e
  split at e
  · obtain ⟨v, rfl, h1⟩ := rs.one
    split at e
    · rename_i es e1
      obtain ⟨bs, e2, e3⟩ := Option.map_eq_some_iff.mp e
      cases e3
      obtain ⟨a, vs, rfl, rl, sq⟩ := asSeq_ok h h1 e1
      rw [← hK] at sq
      rw [asBls_ok rl e2] at sq
      exact ⟨_, cr_any hc, a, bs, rfl, by simpa using sq, fin0 h q rfl⟩
    · cases e
  · cases e
def intD : OpF := fun S ds => match ds with
  | [.int i] => some (.int i, S)
  | [.bl b] => some (.int (if b then 1 else 0), S)
  | _ => none
theorem int_ok : CallR X (.type "int") (rC T intD) := by
  refine CallR.cases fun xs H Q ⟨α, S, ds, r, S', h, rs, e, q⟩ => ?_
  unfold intD at e
  split at e
  · cases e
    obtain ⟨v, rfl, h1⟩ := rs.one
    cases h1
    exact ⟨_, call_int1, .inl ⟨_, rfl, fin0 h q rfl⟩⟩
  · cases e
    obtain ⟨v, rfl, h1⟩ := rs.one
    cases h1
    exact ⟨_, call_int1, .inr ⟨_, rfl, fin0 h q rfl⟩⟩
  · cases e

/-! ### isinstance -/
def tyName (S : Sto) : D → Option String
  | .non => some "NoneType"
  | .bl _ => some "bool"
  | .int _ => some "int"
  | .str _ => some "str"
  | .tup _ => some "tuple"
  | .wt _ => some "tuple"
  | .pt _ => some "tuple"
  | .lst _ => some "list"
  | .wl _ => some "list"
  | .ref i => match S[i]? with
    | some (.lst _) => some "list"
    | _ => none
  | _ => none
theorem tyName_ok {H : Hp} {α : List Addr} {S : Sto} {d : D} {v : V} {n : String} (h : HR T H α S) (r : Rep T H α d v) (e : tyName S d = some n) : TyX T.K H v (.type n) := by
  cases d with
  | non => cases e; cases r; exact .base .non
  | bl b => cases e; cases r; exact .base (.bl b)
  | int i => cases e; cases r; exact .base (.int i)
  | str x => cases e; cases r; exact .base (.str x)
  | tup ds => cases e; obtain ⟨a, vs, rfl, l, _⟩ := r; exact .base (.tup l.1)
  | pt ds => cases e; obtain ⟨a, vs, rfl, ⟨o, q1, _⟩, _⟩ := r; exact .fTuple q1
  | lst ds => cases e; obtain ⟨a, vs, rfl, l, _⟩ := r; exact .base (.lst l.1)
  | wt ds =>
    cases e
    obtain ⟨a, vs, rfl, l, _⟩ := r
    rcases l with ⟨l | ⟨o, l⟩, _⟩ | ⟨o, its, n, l1, l2, _⟩
    · exact .base (.tup l)
    · exact .fTuple l
    · exact .kTuple l1 l2
  | wl ds =>
    cases e
    obtain ⟨a, vs, rfl, l, _⟩ := r
    rcases l with ⟨l | ⟨o, l⟩, _, _⟩ | ⟨o, its, n, l1, l2, _⟩
    · exact .base (.lst l)
    · exact .base (.frz l)
    · exact .kList l1 l2
  | ref i =>
    simp only [tyName] at e
    split at e
    · rename_i ds q
      cases e
      obtain ⟨a, rfl, h1⟩ := r
      obtain ⟨a', u, e2, e3, vs, rfl, e4⟩ := h.cell _ _ q
      rw [h1] at e2; cases e2
      exact .base (.lst e3)
    · cases e
  | fn i => cases e
  | ty n => cases e
def isiB (a b : String) : Option Bool := if b ∈ ["int", "bool", "str", "tuple", "list"] then some (decide (a = b) || (decide (a = "bool") && decide (b = "int"))) else none
def isiD : OpF := fun S ds => match ds with
  | [d, .ty n] => match tyName S d with
    | some m => (isiB m n).map fun b => (.bl b, S)
    | none => none
  | _ => none
theorem isiB_kit : ∀ a ∈ ["NoneType", "bool", "int", "str", "tuple", "list"], ∀ b ∈ ["int", "bool", "str", "tuple", "list"], kitB a b = isiB a b := by
  intro a ha b hb
  simp only [List.mem_cons, List.not_mem_nil, or_false] at ha hb
  rcases ha with rfl | rfl | rfl | rfl | rfl | rfl <;> rcases hb with rfl | rfl | rfl | rfl | rfl <;> decide +kernel
theorem tyName_mem {S : Sto} {d : D} {n : String} (e : tyName S d = some n) : n ∈ ["NoneType", "bool", "int", "str", "tuple", "list"] := by
  unfold tyName at e
  split at e <;> first | (cases e; decide) | (split at e <;> first | (cases e; decide) | cases e) | cases e
theorem isi_ok (hK : X.K = T.K) : CallR X (.builtin "isinstance") (rC T isiD) := by
  refine CallR.cases fun xs H Q ⟨α, S, ds, r, S', h, rs, e, q⟩ => ?_
  unfold isiD at e
  split at e
  · rename_i d n
    obtain ⟨v, w, rfl, h1, h2⟩ := rs.two
    cases h2
    split at e
    · rename_i m e1
      obtain ⟨b, e2, e3⟩ := Option.map_eq_some_iff.mp e
      cases e3
      have ty := tyName_ok h h1 e1
      rw [← hK] at ty
      refine ⟨_, call_isi, v, .ty n, .type m, .type n, b, rfl, .ty n, ty, kit_ty ?_, fin0 h q rfl⟩
      have hn : n ∈ ["int", "bool", "str", "tuple", "list"] := by
        unfold isiB at e2
        split at e2
        · assumption
        · cases e2
      rw [isiB_kit m (tyName_mem e1) n hn]
      exact e2
    · cases e
  · cases e
end
end NT
/-! max, min of a tuple of ints -/
namespace NT
open PySem L2
section
open PySem.Spec PyProof.Rows
variable {prog : Program} {w : World} {A : Around} {E : Value → Shared → Prop} {s : Shared} {l : Addr} {xs : Array (Int × Tok)}
theorem iter_intTuple {Q : Value → Shared → Prop} (hl : s.heap.IsTuple l (intItems xs))
    (h : ∀ s₂ : Shared, s₂ = { s with heap := s.heap.push { cls := .type "tuple_iterator", data := .fields #[.ref l, .int 0 0] } } →
      (s₂.heap.IsTupleIter s.heap.objs.size l 0 ∧ s₂.heap.IsTuple l (intItems xs)) → (∀ b ∈ [s.heap.objs.size, l], b < s₂.heap.objs.size) → s.heap.objs.size ≠ l → Q (.ref s.heap.objs.size) s₂) :
    wpAny (model prog w) A (pyIter (.ref l)) Q E s := by
  have hlt : l < s.heap.objs.size := by obtain ⟨_, e, _⟩ := hl; exact Heap.lt_size e
  refine wpAny_pyIter_tuple hl (h _ rfl ⟨⟨_, Heap.get?_push_size _ rfl, rfl, rfl⟩, hl.push _⟩ (fun b hb => ?_) (Nat.ne_of_gt hlt))
  show b < (s.heap.push _).objs.size
  rw [Heap.size_push]
  rcases List.mem_cons.mp hb with rfl | hb
  · exact Nat.lt_succ_self _
  · rcases List.mem_cons.mp hb with rfl | hb
    · exact Nat.lt_succ_of_lt hlt
    · cases hb
theorem old_keptT {h' : Heap} (hk : ∀ b o, b ∉ [s.heap.objs.size] → (s.heap.push { cls := .type "tuple_iterator", data := .fields #[.ref l, .int 0 0] }).get? b = some o → h'.get? b = some o) :
    ∀ b o, s.heap.get? b = some o → h'.get? b = some o := fun b o e => by
  refine hk b o (fun hm => ?_) (Heap.get?_push_of_some _ e)
  rcases List.mem_cons.mp hm with e1 | hm
  · exact absurd (e1 ▸ Heap.lt_size e) (Nat.lt_irrefl _)
  · cases hm
theorem max_intTuple {Q : Value → Shared → Prop} (hh : A.handled = none) (hl : s.heap.IsTuple l (intItems xs)) (hne : 0 < xs.size)
    (h : ∀ v h' tk, (intItems xs)[argBest (fun i j => decide (numAt xs i > numAt xs j)) (xs.size - 1)]? = some v → (∀ b o, s.heap.get? b = some o → h'.get? b = some o) → Q v { s with heap := h', toks := tk }) :
    wpAny (model prog w) A (call (.builtin "max") [.ref l]) Q E s := by
  refine call_max_walk (iter_intTuple hl fun s₂ e st hfp hlI => ?_)
  subst e
  refine ⟨_, _, _, _, _, _, _, rfl, Walks.tuple (A := A.in1) hh _ l hlI.symm (intItems xs), st, hfp, by simpa [intItems] using hne, CmpOf.ints_gt (numAt xs) (fun _ _ => intItems_at), fun v h' tk hP hk => ?_⟩
  exact h v h' tk (by simpa [intItems] using hP) (old_keptT hk)
theorem min_intTuple {Q : Value → Shared → Prop} (hh : A.handled = none) (hl : s.heap.IsTuple l (intItems xs)) (hne : 0 < xs.size)
    (h : ∀ v h' tk, (intItems xs)[argBest (fun i j => decide (numAt xs i < numAt xs j)) (xs.size - 1)]? = some v → (∀ b o, s.heap.get? b = some o → h'.get? b = some o) → Q v { s with heap := h', toks := tk }) :
    wpAny (model prog w) A (call (.builtin "min") [.ref l]) Q E s := by
  refine call_min_walk (iter_intTuple hl fun s₂ e st hfp hlI => ?_)
  subst e
  refine ⟨_, _, _, _, _, _, _, rfl, Walks.tuple (A := A.in1) hh _ l hlI.symm (intItems xs), st, hfp, by simpa [intItems] using hne, CmpOf.ints_lt (numAt xs) (fun _ _ => intItems_at), fun v h' tk hP hk => ?_⟩
  exact h v h' tk (by simpa [intItems] using hP) (old_keptT hk)
variable {its : List Value} {ns : List Int} {Q : Value → Shared → Prop}
theorem max_rawT (hh : A.handled = none) (hl : s.heap.IsTuple l its.toArray) (hi : IntsAre its ns) (hne : 0 < ns.length)
    (h : ∀ h' tk M t', (∀ b o, s.heap.get? b = some o → h'.get? b = some o) → M ∈ ns → (∀ a, a ∈ ns → a ≤ M) → Q (.int M t') { s with heap := h', toks := tk }) : wpAny (model prog w) A (call (.builtin "max") [.ref l]) Q E s := by
  obtain ⟨xs, e⟩ := hi.allInts.items
  have hn : numsOf (intItems xs).toList = ns := by rw [← e]; exact hi.numsOf
  rw [nums_intItems] at hn
  subst hn
  rw [e] at hl
  have hsz : 0 < xs.size := by simpa using hne
  refine max_intTuple hh hl hsz fun v h' tk hv hk => ?_
  obtain ⟨t, rfl⟩ := intItems_at hv
  obtain ⟨h1, h2⟩ := argBest_gt (numAt xs) (xs.size - 1)
  refine h h' tk _ t hk ?_ fun a ha => ?_
  · rw [numAt_eq]; exact PySem.getD_mem (by rw [List.length_map, Array.length_toList]; omega)
  · obtain ⟨j, hj, rfl⟩ := mem_getD ha
    rw [List.length_map, Array.length_toList] at hj
    rw [← numAt_eq]; exact h2 j (by omega)
theorem min_rawT (hh : A.handled = none) (hl : s.heap.IsTuple l its.toArray) (hi : IntsAre its ns) (hne : 0 < ns.length)
    (h : ∀ h' tk M t', (∀ b o, s.heap.get? b = some o → h'.get? b = some o) → M ∈ ns → (∀ a, a ∈ ns → M ≤ a) → Q (.int M t') { s with heap := h', toks := tk }) : wpAny (model prog w) A (call (.builtin "min") [.ref l]) Q E s := by
  obtain ⟨xs, e⟩ := hi.allInts.items
  have hn : numsOf (intItems xs).toList = ns := by rw [← e]; exact hi.numsOf
  rw [nums_intItems] at hn
  subst hn
  rw [e] at hl
  have hsz : 0 < xs.size := by simpa using hne
  refine min_intTuple hh hl hsz fun v h' tk hv hk => ?_
  obtain ⟨t, rfl⟩ := intItems_at hv
  obtain ⟨h1, h2⟩ := argBest_lt (numAt xs) (xs.size - 1)
  refine h h' tk _ t hk ?_ fun a ha => ?_
  · rw [numAt_eq]; exact PySem.getD_mem (by rw [List.length_map, Array.length_toList]; omega)
  · obtain ⟨j, hj, rfl⟩ := mem_getD ha
    rw [List.length_map, Array.length_toList] at hj
    rw [← numAt_eq]; exact h2 j (by omega)
end
section
variable {X : Cx}
theorem cr_maxT (hc : X.calm = true) : CallR X (.builtin "max") (fun vs H Q => ∃ (a : Addr) (ns : List Int), vs = [V.ref a] ∧ SqT X.K H a (ns.map V.int) ∧ 0 < ns.length ∧ ∀ m, m ∈ ns → (∀ y, y ∈ ns → y ≤ m) → Q (.int m) H) := by
  intro pins s σ H vs us Q I r h
  obtain ⟨a, ns, rfl, hs, hne, q⟩ := h
  obtain ⟨its, rv, hl, _⟩ := I.tuple hs
  rw [Vals.ref1 r]
  exact max_rawT (I.ok.hd hc) hl rv.ints hne fun h' tk m t' hk h1 h2 => ⟨.int _, H, I.kept hk, ⟨_, rfl⟩, q m h1 h2⟩
theorem cr_minT (hc : X.calm = true) : CallR X (.builtin "min") (fun vs H Q => ∃ (a : Addr) (ns : List Int), vs = [V.ref a] ∧ SqT X.K H a (ns.map V.int) ∧ 0 < ns.length ∧ ∀ m, m ∈ ns → (∀ y, y ∈ ns → m ≤ y) → Q (.int m) H) := by
  intro pins s σ H vs us Q I r h
  obtain ⟨a, ns, rfl, hs, hne, q⟩ := h
  obtain ⟨its, rv, hl, _⟩ := I.tuple hs
  rw [Vals.ref1 r]
  exact min_rawT (I.ok.hd hc) hl rv.ints hne fun h' tk m t' hk h1 h2 => ⟨.int _, H, I.kept hk, ⟨_, rfl⟩, q m h1 h2⟩
end
end NT
namespace NT
open PySem L2

section
open PySem.Spec PyProof.Rows
variable {prog : Program} {w : World} {A : Around} {E : Value → Shared → Prop} {s : Shared}
def best4 (f : Int → Int → Bool) (a b c d : Int) : Int := [b, c, d].foldl (fun m x => if f x m = true then x else m) a
theorem best4_at (f : Int → Int → Bool) {a b c d : Int} {t1 t2 t3 t4 : Tok} {v : Value} (h : (intItems #[(a, t1), (b, t2), (c, t3), (d, t4)])[argBest (fun i j => f (numAt #[(a, t1), (b, t2), (c, t3), (d, t4)] i) (numAt #[(a, t1), (b, t2), (c, t3), (d, t4)] j)) 3]? = some v) : ∃ t, v = .int (best4 f a b c d) t := by
  simp only [argBest, numAt, best4, List.foldl] at h ⊢
  simp at h
  by_cases h1 : f b a = true
  · simp only [h1, if_true] at h ⊢
    by_cases h2 : f c b = true
    · simp only [h2, if_true] at h ⊢
      by_cases h3 : f d c = true <;> simp [h3, h2, h1, intItems] at h ⊢ <;> exact ⟨_, h.symm⟩
    · by_cases h3 : f d b = true <;> simp [h3, h2, h1, intItems] at h ⊢ <;> exact ⟨_, h.symm⟩
  · by_cases h2 : f c a = true
    · by_cases h3 : f d c = true <;> simp [h3, h2, h1, intItems] at h ⊢ <;> exact ⟨_, h.symm⟩
    · by_cases h3 : f d a = true <;> simp [h3, h2, h1, intItems] at h ⊢ <;> exact ⟨_, h.symm⟩
theorem args4_max (a b c d : Value) : argsOk "max" ⟨[a, b, c, d], []⟩ := by unfold argsOk; kernel_rfl
theorem max_four {a b c d : Int} {t1 t2 t3 t4 : Tok} {Q : Value → Shared → Prop} (hh : A.handled = none)
    (h : ∀ h' tk t, (∀ c o, s.heap.get? c = some o → h'.get? c = some o) → Q (.int (best4 (fun x m => decide (x > m)) a b c d) t) { s with heap := h', toks := tk }) :
    wpAny (model prog w) A (call (.builtin "max") [.int a t1, .int b t2, .int c t3, .int d t4]) Q E s := by
  have hT : (s.heap.push { cls := .type "tuple", data := .seq #[.int a t1, .int b t2, .int c t3, .int d t4] }).IsTuple s.heap.objs.size (intItems #[(a, t1), (b, t2), (c, t3), (d, t4)]) := ⟨_, Heap.get?_push_size _ rfl, rfl, 0, by simp [intItems]⟩
  have hsz : (s.heap.push { cls := .type "tuple", data := .seq #[.int a t1, .int b t2, .int c t3, .int d t4] }).objs.size = s.heap.objs.size + 1 := Heap.size_push ..
  have nm : (toString "max" ++ toString ".loop" : String) = "max.loop" := by decide
  refine call_function_tree F.kind_max F.plain_max F.entry_max (args4_max _ _ _ _) ?_
  show wpAny _ A.in1 (Builtin.Builtins.bindParams "max" ["key", "default"] 0 ⟨[], []⟩ >>= _) _ _ s
  refine wpAny_bind (wpAny_of_eq (show Builtin.Builtins.bindParams "max" ["key", "default"] 0 ⟨[], []⟩ = pure [none, none] from rfl) ?_)
  show wpAny _ A.in1 (newTuple [.int a t1, .int b t2, .int c t3, .int d t4] >>= _) _ _ s
  refine wpAny_bind (wpAny_newObj_type ?_)
  refine wpAny_bind (wpAny_pyIter_tuple hT ?_)
  refine wpAny_bind (wpAny_newObj_type ?_)
  rw [nm]
  have W := Walks.tuple (prog := prog) (w := w) (A := A.in1) hh (s.heap.push { cls := .type "tuple", data := .seq #[.int a t1, .int b t2, .int c t3, .int d t4] }).objs.size s.heap.objs.size (by rw [hsz]; exact Nat.ne_of_lt (Nat.lt_succ_self _)) (intItems #[(a, t1), (b, t2), (c, t3), (d, t4)])
  generalize hg : s.heap.push { cls := .type "tuple", data := .seq #[.int a t1, .int b t2, .int c t3, .int d t4] } = g at hT hsz W ⊢
  have kg : ∀ c o, s.heap.get? c = some o → g.get? c = some o := fun c o e => by rw [← hg]; exact Heap.get?_push_of_some _ e
  have ki : (g.push { cls := .type "tuple_iterator", data := .fields #[.ref s.heap.objs.size, .int 0 0] }).objs.size = g.objs.size + 1 := Heap.size_push ..
  refine wpAny_pure ⟨plainId_quiet F.plain_max_loop _, codeAny_max_loop_first W (fun i j => decide (numAt #[(a, t1), (b, t2), (c, t3), (d, t4)] i > numAt #[(a, t1), (b, t2), (c, t3), (d, t4)] j)) (CmpOf.ints_gt (numAt _) fun _ _ => intItems_at) (g.push { cls := .type "tuple_iterator", data := .fields #[.ref s.heap.objs.size, .int 0 0] }).objs.size ?_ (by simp [intItems]) ⟨⟨_, Heap.get?_push_of_some _ (Heap.get?_push_size _ rfl), rfl, rfl⟩, (hT.push _).push _⟩ (Heap.get?_push_size _ rfl) fun v h' tk hP hk => ?_⟩
  · rw [ki, hsz]
    simp only [List.mem_cons, List.not_mem_nil, or_false, not_or]
    constructor <;> (unfold Addr at *; omega)
  · obtain ⟨t, rfl⟩ := best4_at (fun x m => decide (x > m)) (by simpa [intItems] using hP)
    refine h h' tk t fun c o e => hk c o ?_ ?_ (Heap.get?_push_of_some _ (Heap.get?_push_of_some _ (kg c o e)))
    · have l := Heap.lt_size e
      simp only [List.mem_cons, List.not_mem_nil, or_false]
      intro z
      rw [z, hsz] at l
      exact absurd l (by show ¬ (s.heap.objs.size + 1 < s.heap.objs.size); omega)
    · have l := Heap.lt_size e
      rw [ki, hsz]
      exact Nat.ne_of_lt (Nat.lt_of_lt_of_le l (by show s.heap.objs.size ≤ s.heap.objs.size + 1 + 1; omega))
theorem args4_min (a b c d : Value) : argsOk "min" ⟨[a, b, c, d], []⟩ := by unfold argsOk; kernel_rfl
theorem min_four {a b c d : Int} {t1 t2 t3 t4 : Tok} {Q : Value → Shared → Prop} (hh : A.handled = none)
    (h : ∀ h' tk t, (∀ c o, s.heap.get? c = some o → h'.get? c = some o) → Q (.int (best4 (fun x m => decide (x < m)) a b c d) t) { s with heap := h', toks := tk }) :
    wpAny (model prog w) A (call (.builtin "min") [.int a t1, .int b t2, .int c t3, .int d t4]) Q E s := by
  have hT : (s.heap.push { cls := .type "tuple", data := .seq #[.int a t1, .int b t2, .int c t3, .int d t4] }).IsTuple s.heap.objs.size (intItems #[(a, t1), (b, t2), (c, t3), (d, t4)]) := ⟨_, Heap.get?_push_size _ rfl, rfl, 0, by simp [intItems]⟩
  have hsz : (s.heap.push { cls := .type "tuple", data := .seq #[.int a t1, .int b t2, .int c t3, .int d t4] }).objs.size = s.heap.objs.size + 1 := Heap.size_push ..
  have nm : (toString "min" ++ toString ".loop" : String) = "min.loop" := by decide
  refine call_function_tree F.kind_min F.plain_min F.entry_min (args4_min _ _ _ _) ?_
  show wpAny _ A.in1 (Builtin.Builtins.bindParams "min" ["key", "default"] 0 ⟨[], []⟩ >>= _) _ _ s
  refine wpAny_bind (wpAny_of_eq (show Builtin.Builtins.bindParams "min" ["key", "default"] 0 ⟨[], []⟩ = pure [none, none] from rfl) ?_)
  show wpAny _ A.in1 (newTuple [.int a t1, .int b t2, .int c t3, .int d t4] >>= _) _ _ s
  refine wpAny_bind (wpAny_newObj_type ?_)
  refine wpAny_bind (wpAny_pyIter_tuple hT ?_)
  refine wpAny_bind (wpAny_newObj_type ?_)
  rw [nm]
  have W := Walks.tuple (prog := prog) (w := w) (A := A.in1) hh (s.heap.push { cls := .type "tuple", data := .seq #[.int a t1, .int b t2, .int c t3, .int d t4] }).objs.size s.heap.objs.size (by rw [hsz]; exact Nat.ne_of_lt (Nat.lt_succ_self _)) (intItems #[(a, t1), (b, t2), (c, t3), (d, t4)])
  generalize hg : s.heap.push { cls := .type "tuple", data := .seq #[.int a t1, .int b t2, .int c t3, .int d t4] } = g at hT hsz W ⊢
  have kg : ∀ c o, s.heap.get? c = some o → g.get? c = some o := fun c o e => by rw [← hg]; exact Heap.get?_push_of_some _ e
  have ki : (g.push { cls := .type "tuple_iterator", data := .fields #[.ref s.heap.objs.size, .int 0 0] }).objs.size = g.objs.size + 1 := Heap.size_push ..
  refine wpAny_pure ⟨plainId_quiet F.plain_min_loop _, codeAny_min_loop_first W (fun i j => decide (numAt #[(a, t1), (b, t2), (c, t3), (d, t4)] i < numAt #[(a, t1), (b, t2), (c, t3), (d, t4)] j)) (CmpOf.ints_lt (numAt _) fun _ _ => intItems_at) (g.push { cls := .type "tuple_iterator", data := .fields #[.ref s.heap.objs.size, .int 0 0] }).objs.size ?_ (by simp [intItems]) ⟨⟨_, Heap.get?_push_of_some _ (Heap.get?_push_size _ rfl), rfl, rfl⟩, (hT.push _).push _⟩ (Heap.get?_push_size _ rfl) fun v h' tk hP hk => ?_⟩
  · rw [ki, hsz]
    simp only [List.mem_cons, List.not_mem_nil, or_false, not_or]
    constructor <;> (unfold Addr at *; omega)
  · obtain ⟨t, rfl⟩ := best4_at (fun x m => decide (x < m)) (by simpa [intItems] using hP)
    refine h h' tk t fun c o e => hk c o ?_ ?_ (Heap.get?_push_of_some _ (Heap.get?_push_of_some _ (kg c o e)))
    · have l := Heap.lt_size e
      simp only [List.mem_cons, List.not_mem_nil, or_false]
      intro z
      rw [z, hsz] at l
      exact absurd l (by show ¬ (s.heap.objs.size + 1 < s.heap.objs.size); omega)
    · have l := Heap.lt_size e
      rw [ki, hsz]
      exact Nat.ne_of_lt (Nat.lt_of_lt_of_le l (by show s.heap.objs.size ≤ s.heap.objs.size + 1 + 1; omega))

end

section
variable {X : Cx} {T : TW}
theorem call_max4 (hc : X.calm = true) : CallR X (.builtin "max") (fun xs H Q => ∃ a b c d, xs = [.int a, .int b, .int c, .int d] ∧ Q (.int (best4 (fun x m => decide (x > m)) a b c d)) H) := by
  intro pins s σ H xs us Q I r h
  obtain ⟨a, b, c, d, rfl, q⟩ := h
  cases r with
  | cons r1 r => cases r with
    | cons r2 r => cases r with
      | cons r3 r => cases r with
        | cons r4 r =>
          cases r
          obtain ⟨t1, rfl⟩ := r1
          obtain ⟨t2, rfl⟩ := r2
          obtain ⟨t3, rfl⟩ := r3
          obtain ⟨t4, rfl⟩ := r4
          exact max_four (I.ok.hd hc) fun h' tk t k => ⟨.int _, H, I.kept k, ⟨t, rfl⟩, q⟩
/-- the greatest, the least of a list of ints -/
def topOf : List Int → Option Int
  | [] => none
  | x :: xs => some (xs.foldl max x)
def lowOf : List Int → Option Int
  | [] => none
  | x :: xs => some (xs.foldl min x)
theorem foldl_max_ge : ∀ (xs : List Int) (x : Int), x ≤ xs.foldl max x ∧ ∀ y ∈ xs, y ≤ xs.foldl max x
  | [], x => ⟨Int.le_refl _, fun y h => by cases h⟩
  | z :: xs, x => by
    obtain ⟨h1, h2⟩ := foldl_max_ge xs (max x z)
    refine ⟨Int.le_trans (Int.le_max_left _ _) h1, fun y h => ?_⟩
    rcases List.mem_cons.mp h with rfl | h
    · exact Int.le_trans (Int.le_max_right _ _) h1
    · exact h2 y h
theorem foldl_max_mem : ∀ (xs : List Int) (x : Int), xs.foldl max x ∈ x :: xs
  | [], x => by simp
  | z :: xs, x => by
    have h := foldl_max_mem xs (max x z)
    simp only [List.foldl_cons]
    rcases List.mem_cons.mp h with e | h
    · rw [e]
      rcases (by omega : max x z = x ∨ max x z = z) with e | e <;> rw [e] <;> simp
    · exact List.mem_cons_of_mem _ (List.mem_cons_of_mem _ h)
theorem foldl_min_le : ∀ (xs : List Int) (x : Int), xs.foldl min x ≤ x ∧ ∀ y ∈ xs, xs.foldl min x ≤ y
  | [], x => ⟨Int.le_refl _, fun y h => by cases h⟩
  | z :: xs, x => by
    obtain ⟨h1, h2⟩ := foldl_min_le xs (min x z)
    refine ⟨Int.le_trans h1 (Int.min_le_left _ _), fun y h => ?_⟩
    rcases List.mem_cons.mp h with rfl | h
    · exact Int.le_trans h1 (Int.min_le_right _ _)
    · exact h2 y h
theorem foldl_min_mem : ∀ (xs : List Int) (x : Int), xs.foldl min x ∈ x :: xs
  | [], x => by simp
  | z :: xs, x => by
    have h := foldl_min_mem xs (min x z)
    simp only [List.foldl_cons]
    rcases List.mem_cons.mp h with e | h
    · rw [e]
      rcases (by omega : min x z = x ∨ min x z = z) with e | e <;> rw [e] <;> simp
    · exact List.mem_cons_of_mem _ (List.mem_cons_of_mem _ h)
theorem topOf_eq {ns : List Int} {m t : Int} (e : topOf ns = some t) (h1 : m ∈ ns) (h2 : ∀ y ∈ ns, y ≤ m) : m = t := by
  cases ns with
  | nil => cases e
  | cons x xs =>
    cases e
    have a := h2 _ (foldl_max_mem xs x)
    obtain ⟨b1, b2⟩ := foldl_max_ge xs x
    rcases List.mem_cons.mp h1 with rfl | h
    · omega
    · have := b2 _ h; omega
theorem lowOf_eq {ns : List Int} {m t : Int} (e : lowOf ns = some t) (h1 : m ∈ ns) (h2 : ∀ y ∈ ns, m ≤ y) : m = t := by
  cases ns with
  | nil => cases e
  | cons x xs =>
    cases e
    have a := h2 _ (foldl_min_mem xs x)
    obtain ⟨b1, b2⟩ := foldl_min_le xs x
    rcases List.mem_cons.mp h1 with rfl | h
    · omega
    · have := b2 _ h; omega
def asInts : List D → Option (List Int)
  | [] => some []
  | .int i :: ds => (asInts ds).map (i :: ·)
  | _ => none
theorem asInts_eq : ∀ {ds : List D} {ns : List Int}, asInts ds = some ns → ds = ns.map D.int
  | [], _, e => by cases e; rfl
  | .int b :: ds, _, e => by
    rw [asInts] at e
    obtain ⟨ns, e1, rfl⟩ := Option.map_eq_some_iff.mp e
    rw [asInts_eq e1]; rfl
  | .non :: _, _, e => by cases e
  | .bl _ :: _, _, e => by cases e
  | .str _ :: _, _, e => by cases e
  | .tup _ :: _, _, e => by cases e
  | .pt _ :: _, _, e => by cases e
  | .lst _ :: _, _, e => by cases e
  | .wt _ :: _, _, e => by cases e
  | .wl _ :: _, _, e => by cases e
  | .ref _ :: _, _, e => by cases e
  | .fn _ :: _, _, e => by cases e
  | .ty _ :: _, _, e => by cases e
theorem asInts_map (ns : List Int) : asInts (ns.map D.int) = some ns := by
  induction ns with
  | nil => rfl
  | cons n ns ih => simp [asInts, ih]
def maxD : OpF := fun S ds => match ds with
  | [.int i, .int j] => some (.int (if j > i then j else i), S)
  | [.int a, .int b, .int c, .int d] => some (.int (best4 (fun x m => decide (x > m)) a b c d), S)
  | [d] => match asSeq S d with
    | some (_, es) => ((asInts es).bind topOf).map fun m => (.int m, S)
    | _ => none
  | _ => none
def minD : OpF := fun S ds => match ds with
  | [.int i, .int j] => some (.int (if j < i then j else i), S)
  | [d] => match asSeq S d with
    | some (_, es) => ((asInts es).bind lowOf).map fun m => (.int m, S)
    | _ => none
  | _ => none
theorem max_ok (hK : X.K = T.K) (hc : X.calm = true) : CallR X (.builtin "max") (rC T maxD) := by
  refine CallR.cases fun xs H Q ⟨α, S, ds, r, S', h, rs, e, q⟩ => ?_
  unfold maxD at e
  split at e
  · cases e
    obtain ⟨v, w, rfl, h1, h2⟩ := rs.two
    cases h1; cases h2
    exact ⟨_, call_max2 hc, _, _, rfl, fin0 h q rfl⟩
  · cases e
    obtain ⟨v1, r1, rfl, h1, rs⟩ := rs
    obtain ⟨v2, r2, rfl, h2, rs⟩ := rs
    obtain ⟨v3, v4, rfl, h3, h4⟩ := RepL.two rs
    cases h1; cases h2; cases h3; cases h4
    exact ⟨_, call_max4 hc, _, _, _, _, rfl, fin0 h q rfl⟩
  · obtain ⟨v, rfl, h1⟩ := rs.one
    split at e
    · rename_i k es e1
      obtain ⟨m, e2, e3⟩ := Option.map_eq_some_iff.mp e
      cases e3
      obtain ⟨ns, e4, e5⟩ := Option.bind_eq_some_iff.mp e2
      obtain ⟨a, vs, rfl, rl, sq⟩ := asSeq_ok h h1 e1
      rw [← hK] at sq
      rw [asInts_eq e4] at rl
      rw [RepL.ints rl] at sq
      have hne : 0 < ns.length := by
        cases ns with
        | nil => cases e5
        | cons _ _ => simp
      cases k with
      | true =>
        refine ⟨_, cr_max hc, a, ns, rfl, by simpa using sq, hne, fun m' m1 m2 => ?_⟩
        rw [topOf_eq e5 m1 m2]
        exact fin0 h q rfl
      | false =>
        refine ⟨_, cr_maxT hc, a, ns, rfl, by simpa using sq, hne, fun m' m1 m2 => ?_⟩
        rw [topOf_eq e5 m1 m2]
        exact fin0 h q rfl
    · cases e
  · cases e
theorem min_ok (hK : X.K = T.K) (hc : X.calm = true) : CallR X (.builtin "min") (rC T minD) := by
  refine CallR.cases fun xs H Q ⟨α, S, ds, r, S', h, rs, e, q⟩ => ?_
  unfold minD at e
  split at e
  · cases e
    obtain ⟨v, w, rfl, h1, h2⟩ := rs.two
    cases h1; cases h2
    exact ⟨_, call_min2 hc, _, _, rfl, fin0 h q rfl⟩
  · obtain ⟨v, rfl, h1⟩ := rs.one
    split at e
    · rename_i k es e1
      obtain ⟨m, e2, e3⟩ := Option.map_eq_some_iff.mp e
      cases e3
      obtain ⟨ns, e4, e5⟩ := Option.bind_eq_some_iff.mp e2
      obtain ⟨a, vs, rfl, rl, sq⟩ := asSeq_ok h h1 e1
      rw [← hK] at sq
      rw [asInts_eq e4] at rl
      rw [RepL.ints rl] at sq
      have hne : 0 < ns.length := by
        cases ns with
        | nil => cases e5
        | cons _ _ => simp
      cases k with
      | true =>
        refine ⟨_, cr_min hc, a, ns, rfl, by simpa using sq, hne, fun m' m1 m2 => ?_⟩
        rw [lowOf_eq e5 m1 m2]
        exact fin0 h q rfl
      | false =>
        refine ⟨_, cr_minT hc, a, ns, rfl, by simpa using sq, hne, fun m' m1 m2 => ?_⟩
        rw [lowOf_eq e5 m1 m2]
        exact fin0 h q rfl
    · cases e
  · cases e
def sumD : OpF := fun S ds => match ds with
  | [d] => match asSeq S d with
    | some (true, es) => (asInts es).map fun ns => (.int ns.sum, S)
    | _ => none
  | _ => none
theorem sum_ok (hK : X.K = T.K) (hc : X.calm = true) : CallR X (.builtin "sum") (rC T sumD) := by
  refine CallR.cases fun xs H Q ⟨α, S, ds, r, S', h, rs, e, q⟩ => ?_
  unfold sumD at e
  split at e
  · obtain ⟨v, rfl, h1⟩ := rs.one
    split at e
    · rename_i es e1
      obtain ⟨ns, e4, e3⟩ := Option.map_eq_some_iff.mp e
      cases e3
      obtain ⟨a, vs, rfl, rl, sq⟩ := asSeq_ok h h1 e1
      rw [← hK] at sq
      rw [asInts_eq e4] at rl
      rw [RepL.ints rl] at sq
      exact ⟨_, cr_sum hc, a, ns, rfl, by simpa using sq, fin0 h q rfl⟩
    · cases e
  · cases e

/-! ### sorted -/
def encD (d : D) : PyData := d.py0.getD .none
def sortOk (ps : List PyData) : Bool := (ps.all fun p => ps.all fun q => PySem.W.alike p q) && (ps.all fun p => decide (p.depth ≤ 60)) &&
  ((ps.all fun p => match p with | .tuple (_ :: _) => true | _ => false) || (ps.all fun p => match p with | .none => false | .tuple _ => false | _ => true))
def sortL (ds : List D) : List D := ds.mergeSort (PySem.W.dataLe false encD)
def keyD : Key → D
  | .inl i => .int i
  | .inr x => .str x
def dictKeys (S : Sto) : D → Option (List D)
  | .ref i => match S[i]? with
    | some (.dK kvs) => some (kvs.map fun kv => keyD kv.1)
    | some (.dT kvs) => some (kvs.map fun kv => .tup (kv.1.map keyD))
    | _ => none
  | _ => none
/-- the items that are walked -/
def itemsOf (S : Sto) (d : D) : Option (List D) := match asSeq S d with
  | some (_, es) => some es
  | none => dictKeys S d
def sortedD : OpF := fun S ds => match ds with
  | [d] => match itemsOf S d with
    | some es => match D.py0L es with
      | some ps => if sortOk ps = true ∧ es.length ≤ sizeLine then some (.lst (sortL es), S) else none
      | none => none
    | none => none
  | _ => none
theorem sortOk_all {ps : List PyData} (h : sortOk ps = true) : PySem.W.AllAlike ps ∧ PySem.W.Sortable ps ∧ ∀ p ∈ ps, p.depth ≤ 60 := by
  unfold sortOk at h
  simp only [Bool.and_eq_true, Bool.or_eq_true, List.all_eq_true, decide_eq_true_eq] at h
  obtain ⟨⟨h1, h2⟩, h3⟩ := h
  refine ⟨fun p hp q hq => h1 p hp q hq, ?_, h2⟩
  rcases h3 with h3 | h3
  · refine .inl fun p hp => ?_
    have := h3 p hp
    split at this
    · exact ⟨_, _, rfl⟩
    · cases this
  · refine .inr fun p hp => ?_
    have := h3 p hp
    refine ⟨?_, ?_⟩
    · rintro rfl; cases this
    · rintro xs rfl; cases this
theorem py0L_enc : ∀ {ds : List D} {ps : List PyData}, D.py0L ds = some ps → ps = ds.map encD ∧ ∀ d ∈ ds, d.py0 = some (encD d)
  | [], _, e => by cases e; exact ⟨rfl, fun d h => by cases h⟩
  | d :: ds, _, e => by
    rw [D.py0L] at e
    split at e
    · rename_i p ps e1 e2
      cases e
      obtain ⟨h1, h2⟩ := py0L_enc e2
      refine ⟨by rw [h1]; simp [encD, e1], fun d' h => ?_⟩
      rcases List.mem_cons.mp h with rfl | h
      · simp [encD, e1]
      · exact h2 d' h
    · cases e
end
end NT
namespace NT
open PySem L2
section
variable {X : Cx} {T : TW}
/-- a value that stands for a D -/
def RV (T : TW) (H : Hp) (α : List Addr) (u : Value) (d : D) : Prop := ∃ v, Rep T H α d v ∧ RelV v u
theorem each_of {H : Hp} {α : List Addr} : ∀ {ds : List D} {vs : List V} {us : List Value}, RepL T H α ds vs → Vals vs us → PySem.W.EachIs (RV T H α) us ds
  | [], _, _, r, v => by
    cases r
    cases v
    exact .nil
  | d :: ds, _, _, r, v => by
    obtain ⟨x, xs, rfl, h1, h2⟩ := r
    cases v with
    | cons v1 v2 => exact .cons ⟨x, h1, v1⟩ (each_of h2 v2)
theorem of_each {H : Hp} {α : List Addr} : ∀ {us : List Value} {ds : List D}, PySem.W.EachIs (RV T H α) us ds → ∃ vs, RepL T H α ds vs ∧ Vals vs us
  | _, _, .nil => ⟨[], rfl, .nil⟩
  | _, _, .cons ⟨x, h1, h2⟩ r => by
    obtain ⟨vs, h3, h4⟩ := of_each r
    exact ⟨x :: vs, ⟨x, vs, rfl, h1, h3⟩, .cons h2 h4⟩
theorem each_reads {pins σ H s} {α : List Addr} (hK : X.K = T.K) (I : L2.Inv X pins σ H s) : ∀ {us : List Value} {ds : List D}, PySem.W.EachIs (RV T H α) us ds → (∀ d ∈ ds, d.py0 = some (encD d)) → PySem.W.EachIs (fun v b => ∃ as, Reads s.heap v (encD b) as) us ds
  | _, _, .nil, _ => .nil
  | _, _, .cons ⟨x, h1, h2⟩ r, h => by
    refine .cons ?_ (each_reads hK I r fun d hd => h d (List.mem_cons_of_mem _ hd))
    exact Dp.reads I _ _ _ (hK ▸ dp0 h1 (h _ List.mem_cons_self)) h2
theorem each_at {R : Value → D → Prop} : ∀ {us : List Value} {ds : List D}, us.length = ds.length → (∀ (i : Nat) (u : Value) (d : D), us[i]? = some u → ds[i]? = some d → R u d) → PySem.W.EachIs R us ds
  | [], [], _, _ => .nil
  | u :: us, d :: ds, hl, h => .cons (h 0 u d rfl rfl) (each_at (by simpa using hl) fun i u' d' e1 e2 => h (i + 1) u' d' (by simpa using e1) (by simpa using e2))
  | [], _ :: _, hl, _ => by simp at hl
  | _ :: _, [], hl, _ => by simp at hl

theorem RV.key {P : Program} {w : World} {H : Hp} {α : List Addr} {k : Key} {u : Value} (h : (mixKind P w).is k u = true) : RV T H α u (keyD k) := by
  rcases keyIs_shape (show keyIs k u = true from h) with ⟨i, t, rfl, rfl⟩ | ⟨x, t, rfl, rfl⟩
  · exact ⟨.int i, rfl, ⟨t, rfl⟩⟩
  · exact ⟨.str x, rfl, ⟨t, rfl⟩⟩
theorem rep_keys {H : Hp} {α : List Addr} : ∀ ks : List Key, RepL T H α (ks.map keyD) (ks.map kV)
  | [] => rfl
  | .inl i :: ks => ⟨_, _, rfl, rfl, rep_keys ks⟩
  | .inr x :: ks => ⟨_, _, rfl, rfl, rep_keys ks⟩
theorem RepKV.at {κ : Type} {H : Hp} {α : List Addr} : ∀ {kvs : List (κ × D)} {ws : List (κ × V)} {i : Nat} {kd : κ × D}, RepKV T H α kvs ws → kvs[i]? = some kd → ∃ v, ws[i]? = some (kd.1, v) ∧ Rep T H α kd.2 v
  | [], _, _, _, _, e => by simp at e
  | _ :: _, _, 0, _, r, e => by
    obtain ⟨v, ws, rfl, h1, h2⟩ := r
    simp at e; subst e
    exact ⟨v, rfl, h1⟩
  | _ :: _, _, i + 1, _, r, e => by
    obtain ⟨v, ws, rfl, h1, h2⟩ := r
    obtain ⟨w, e1, e2⟩ := RepKV.at (i := i) h2 (by simpa using e)
    exact ⟨w, by simpa using e1, e2⟩
theorem paired_at {α β : Type} {F : α → β → Prop} : ∀ {xs : List α} {ys : List β} {i : Nat} {x : α}, PySem.Paired F xs ys → xs[i]? = some x → ∃ y, ys[i]? = some y ∧ F x y
  | _, _, _, _, .nil, e => by simp at e
  | _, _, 0, _, .cons h _, e => by
    simp at e; subst e
    exact ⟨_, rfl, h⟩
  | _, _, i + 1, _, .cons _ t, e => by
    obtain ⟨y, e1, e2⟩ := paired_at (i := i) t (by simpa using e)
    exact ⟨y, by simpa using e1, e2⟩
theorem HR.noTup {H : Hp} {α : List Addr} {S : Sto} (h : HR T H α S) {b : Addr} {xs : List V} (e : H b = some (.tup xs)) : b ∉ α := fun hm => by
  obtain ⟨i, hi⟩ := List.getElem?_of_mem hm
  have hl : i < S.length := by rw [← h.len]; exact (List.getElem?_eq_some_iff.mp hi).1
  obtain ⟨a, u, e1, e2, e3⟩ := h.cell i S[i] (by simp [hl])
  rw [hi] at e1; cases e1
  rw [e] at e2; cases e2
  cases hS : S[i] with
  | lst ds => rw [hS] at e3; obtain ⟨_, z, _⟩ := e3; cases z
  | dK ds => rw [hS] at e3; obtain ⟨_, z, _⟩ := e3; cases z
  | dT ds => rw [hS] at e3; obtain ⟨_, z, _⟩ := e3; cases z
  | ins c fs => rw [hS] at e3; obtain ⟨_, _, z, _⟩ := e3; cases z
  | frz c => rw [hS] at e3; obtain ⟨_, _, z, _⟩ := e3; cases z

/-- all items of a thing, collected into a list -/
def Coll (X : Cx) (T : TW) (f : Value → Sem (List Value)) : Prop :=
  ∀ (pins : List (Addr × Obj)) (s : Shared) (σ : St) (H : Hp) (α : List Addr) (S : Sto) (d : D) (v : V) (u : Value) (es : List D) (R : List Value → Shared → Prop) (E : Value → Shared → Prop), L2.Inv X pins σ H s → HR T H α S → Rep T H α d v → RelV v u → itemsOf S d = some es →
    (∀ h' tk acc, (∀ b o, s.heap.get? b = some o → h'.get? b = some o) → PySem.W.EachIs (RV T H α) acc es → acc.length ≤ sizeLine → R acc { s with heap := h', toks := tk }) → wpAny (model X.prog X.w) X.A.in1 (f u) R E s
open PySem.Spec PyProof.Rows in
theorem coll_ok (hK : X.K = T.K) (hc : X.calm = true) : Coll X T collect := by
  intro pins s σ H α S d v u es R E I h r rx e k
  have hh : X.A.in1.handled = none := I.ok.hd hc
  unfold itemsOf at e
  split at e
  · rename_i b es' e1
    cases e
    obtain ⟨a, vs, rfl, rl, sq⟩ := asSeq_ok h r e1
    rw [← hK] at sq
    cases rx
    cases b with
    | true =>
      obtain ⟨its, rv, ⟨o, n, ho, hc, hd, hdat⟩, hz⟩ := I.list (by simpa using sq)
      refine wpAny_collect_seq a (.inl rfl) ho hc hdat (fun h' hk => ?_) (by rw [List.size_toArray, ← rv.length]; exact hz)
      exact k h' s.toks its hk (each_of rl rv) (by rw [← rv.length]; exact hz)
    | false =>
      obtain ⟨its, rv, ⟨o, ho, hc, n, hdat⟩, hz⟩ := I.tuple (by simpa using sq)
      refine wpAny_collect_seq a (.inr rfl) ho hc hdat (fun h' hk => ?_) (by rw [List.size_toArray, ← rv.length]; exact hz)
      exact k h' s.toks its hk (each_of rl rv) (by rw [← rv.length]; exact hz)
  · unfold dictKeys at e
    split at e
    · obtain ⟨a, rfl, h1⟩ := r
      cases rx
      split at e
      · rename_i kvs q
        cases e
        obtain ⟨a', u, e2, e3, ws, rfl, e4⟩ := h.cell _ _ q
        rw [h1] at e2; cases e2
        obtain ⟨hz, hd, vs, rel, dd⟩ := dk_of I.hok e3
        obtain ⟨es, ep, raw, hsz, hat⟩ := dd.raw
        have hl := rel.length
        have hl2 := e4.length
        refine PySem.W.kdu_collect (A := X.A.in1) (PySem.KdlSrc.rawDict hd) hh raw (by omega) fun h' tk acc hk hacc => ?_
        refine k h' tk acc.toList hk (each_at (by rw [Array.length_toList, hacc.1, List.length_map]; omega) fun i u d e5 e6 => ?_) (by rw [Array.length_toList, hacc.1]; omega)
        obtain ⟨hi, rfl⟩ := hacc.2 i u (by rw [← Array.getElem?_toList]; exact e5)
        rw [List.getElem?_map] at e6
        obtain ⟨kd, e7, rfl⟩ := Option.map_eq_some_iff.mp e6
        obtain ⟨v, e8, _⟩ := e4.at e7
        obtain ⟨⟨k', w'⟩, e9, e10, _⟩ := paired_at rel e8
        have e10' : kd.1 = k' := e10
        subst e10'
        exact RV.key (hat i hi _ _ e9).1
      · rename_i kvs q
        cases e
        obtain ⟨a', u, e2, e3, ws, rfl, e4⟩ := h.cell _ _ q
        rw [h1] at e2; cases e2
        obtain ⟨hz, hd, xs, rel, dd⟩ := dt_of I.hok e3
        obtain ⟨es, ep, raw, hsz, hat⟩ := dd.raw
        have hl := Paired.length rel
        have hl2 := e4.length
        refine PySem.W.kdu_collect (A := X.A.in1) (PySem.KdlSrc.rawDict hd) hh raw (by omega) fun h' tk acc hk hacc => ?_
        refine k h' tk acc.toList hk (each_at (by rw [Array.length_toList, hacc.1, List.length_map]; omega) fun i u d e5 e6 => ?_) (by rw [Array.length_toList, hacc.1]; omega)
        obtain ⟨hi, rfl⟩ := hacc.2 i u (by rw [← Array.getElem?_toList]; exact e5)
        rw [List.getElem?_map] at e6
        obtain ⟨kd, e7, rfl⟩ := Option.map_eq_some_iff.mp e6
        obtain ⟨v, e8, _⟩ := e4.at e7
        obtain ⟨y, e9, e10, e11, _⟩ := paired_at rel e8
        obtain ⟨y', e12, e13, _⟩ := hat i hi
        rw [e9] at e12; cases e12
        rw [e13]
        exact ⟨.ref y.2.1, ⟨y.2.1, _, rfl, ⟨e11, h.noTup e11⟩, rep_keys _⟩, rfl⟩
      · cases e
    · cases e

open PySem.Spec PyProof.Rows in
theorem sorted_ok (hK : X.K = T.K) (hc : X.calm = true) (hu : X.A.units + 64 < cLine) : CallR X (.builtin "sorted") (rC T sortedD) := by
  intro pins s σ H xs us Q I r h
  obtain ⟨α, S, ds, r', S', h, rs, e, q⟩ := h
  unfold sortedD at e
  split at e
  · obtain ⟨v, rfl, h1⟩ := rs.one
    split at e
    · rename_i es e1
      split at e
      · rename_i ps e2
        split at e
        · rename_i hok
          cases e
          obtain ⟨u, rfl, rx⟩ := vals1 r
          obtain ⟨e3, e4⟩ := py0L_enc e2
          subst e3
          obtain ⟨a1, a2, a3⟩ := sortOk_all hok.1
          refine Calls.call_function_entry PyProof.Rows.kind_sorted PyProof.Rows.plain_sorted PyProof.Rows.entry_sorted (PyProof.Rows.args_sorted1 _) ?_
          unfold Builtin.«sorted»
          refine wpAny_bind (m := checkCount "sorted" 1 1 _) (wpAny_pure ?_)
          refine wpAny_bind (coll_ok hK hc pins s σ H α S _ _ _ es _ _ I h h1 rx e1 fun h' tk acc hk hacc hz => ?_)
          have I1 : L2.Inv X pins σ H { s with heap := h', toks := tk } := I.kept hk
          refine wpAny_bind (wpAny_newList ?_ hz)
          have hoL : (h'.push (seqObj "list" acc.toArray 0)).get? h'.objs.size = some (seqObj "list" acc.toArray 0) := Heap.get?_push_size _ rfl
          have hR : PySem.W.EachIs (fun v b => ∃ as, Reads (PySem.W.sortingHeap (h'.push (seqObj "list" acc.toArray 0)) h'.objs.size acc) v (encD b) as) acc es :=
            (each_reads hK I1 hacc e4).mono fun _ _ ⟨as, rr⟩ => ⟨as, PyProof.Rows.Reads.keeps (fun b o q => PySem.W.sortingHeap_old (Nat.ne_of_lt (Heap.lt_size q)) (Heap.get?_push_of_some _ q)) rr⟩
          show wpAny _ _ _ _ _ { s with heap := h'.push (seqObj "list" acc.toArray 0), toks := tk }
          refine wpAny_bind (wpAny_holding (wpAny_call_entry PyProof.Rows.slot_list_sort ⟨_, hoL, rfl⟩ PyProof.Rows.entry_list_sort
            (PySem.W.list_sort_vals (s := { s with heap := h'.push (seqObj "list" acc.toArray 0), toks := tk }) hoL
              (PySem.W.SortsAt.data (s := { s with heap := PySem.W.sortingHeap (h'.push (seqObj "list" acc.toArray 0)) h'.objs.size acc, toks := tk }) (PySem.W.each_map (R := fun v d => ∃ as, Reads (PySem.W.sortingHeap (h'.push (seqObj "list" acc.toArray 0)) h'.objs.size acc) v d as) encD hR) a1 a2 (fun d hd => by have := a3 d hd; show X.A.units + 2 + d.depth < cLine; omega)) (by exact hz) ⟨.none, rfl, ?_⟩) (PyProof.Rows.args_list_sort _)))
          have eo := PySem.W.sortVals_data (h' := PySem.W.sortingHeap (h'.push (seqObj "list" acc.toArray 0)) h'.objs.size acc) (enc := encD) false hacc hR a1
          obtain ⟨ws, w1, w2⟩ := of_each eo
          obtain ⟨e', he'⟩ := PyProof.Rows.sortedHeap_at (vs := acc) (out := (PySem.W.sortVals (PySem.W.dataKind (PySem.W.sortingHeap (h'.push (seqObj "list" acc.toArray 0)) h'.objs.size acc) (es.map encD)) false acc acc).toArray) hoL
          have hlen : ws.length ≤ sizeLine := by
            rw [← w1.length, List.length_mergeSort]
            exact hok.2
          refine wpAny_pure ⟨_, rfl, .ref h'.objs.size, upd H h'.objs.size (.lst ws), I1.laid (t' := tk) (fun b u e => ?_) (Nat.le_refl _)
            (show ObjOk X.prog X.w _ _ _ (.lst ws) from ⟨hlen, _, e', w2, he'⟩), rfl, finL h q w1 (I1.hok.fresh (Nat.le_refl _))⟩
          have hb : b < h'.objs.size := Heap.lt_size e
          rw [PyProof.Rows.sortedHeap_old (Nat.ne_of_lt hb) (by rw [size_push']; exact Nat.lt_succ_of_lt hb)]
          exact Heap.get?_push_of_some _ e
        · cases e
      · cases e
    · cases e
  · cases e
end
end NT
/-! d.pop(t) of a dict with tuples for keys -/
namespace DT
open PySem PySem.W PySem.Calls PyProof.Rows PyProof.V PySem.Spec
section
variable {K : Type} [DecidableEq K] {prog : Program} {w : World} {knd : HeapKind prog w K}
theorem meetsPop1 {d b : Addr} {k : K} (hd : (d == sysModules) = false) :
    MeetsIn prog w (Builtin.«dict.pop» ⟨[.ref d, .ref b], []⟩) (fun A R s => ∃ xs, knd.room A.in1 ∧ knd.is s.heap k b ∧ s.heap.DictOfH knd d xs ∧ xs.length ≤ sizeLine ∧ atKey xs k ≠ none ∧
      ∀ p, atKey xs k = some p → ∀ h' tk, h'.DictOfH knd d (dropH xs k) → Heap.SameBut d s.heap h' → R (.ok (.ret p.2)) { s with heap := h', toks := tk }) :=
  .of_wp fun A R s ⟨xs, hu, hkey, hm, hsz, hnone, hsome⟩ => by
    obtain ⟨o, es, ep, ho, hc, hdat, he, his, hn⟩ := id hm
    have hes : es.size = xs.length := size_of_entries he
    have hpart : (keyPart (Value.ref b)).isSome = false := rfl
    unfold Builtin.«dict.pop»
    refine wpAny_bind ?_
    unfold Builtin.Dict.keyAndDefault
    refine wpAny_bind (wpAny_notOrdered_dict hm.typeIs ?_)
    show wpAny _ _ (pure (d, Value.ref b, none)) _ _ s
    refine wpAny_pure ?_
    simp only [hpart, Bool.false_eq_true, if_false]
    refine wpAny_bind (wpAny_dictEntries ho hdat (wpAny_bind (wpAny_pure ?_)))
    cases hem : es.isEmpty with
    | true =>
      have h0 : xs = [] := by
        have z : es.size = 0 := by simpa using hem
        exact List.length_eq_zero_iff.mp (by omega)
      exact absurd (by rw [h0]; rfl) hnone
    | false =>
      simp only [Bool.false_eq_true, if_false]
      refine wpAny_bind (takeH hu hkey hm hsz (fun hno => absurd hno hnone) fun p e hp hev h' hm' hs' => ?_)
      simp only [Option.isNone_some, Bool.false_eq_true, if_false]
      exact wpAny_bind (wpAny_letGo (wpAny_pure ⟨e.val, rfl, by rw [hev]; exact hsome p hp h' _ hm' hs'⟩))
end
end DT
namespace L2.DX
open PySem PySem.Spec PyProof.Rows
theorem mt_popT1 {X : Cx} (hu : X.A.units + 1 < cLine) : MtR X "dict.pop" (fun x xs H Q => ∃ (a : Addr) (kvs : List (List L2.Key × V)) (k : List L2.Key) (b : Addr) (v : V), x = .ref a ∧ xs = [.ref b] ∧ H a = some (.dT kvs) ∧ H b = some (.tup (k.map kV)) ∧
  valV kvs k = some v ∧ Q v (upd H a (.dT (dropK kvs k)))) := by
  intro pins s σ H x xs v us Q I rx rxs h
  obtain ⟨a, kvs, k, b, v0, rfl, rfl, ha, hb, ev, q1⟩ := h
  cases rx
  obtain ⟨u1, rfl, r1⟩ := vals1 rxs
  cases r1
  obtain ⟨z, hd, xs', rel, dd⟩ := dt_of I.hok ha
  have hz : xs'.length ≤ sizeLine := by rw [← Paired.length rel]; exact z
  refine call_meetsIn PySem.F.slot_dict_pop dd.typeIs PySem.F.entry_dict_pop (PySem.F.args_dict_pop_2 _ _) (_root_.DT.meetsPop1 (knd := tupleKind (mixKind X.prog X.w)) (k := k) hd)
    ⟨xs', tupleKind_room_in1 hu, key_of I.hok hb, dd, hz, fun hn => ?_, fun p hp h' tk dd' hs => ?_⟩
  · have r := rel.val k
    rw [hn, ev] at r
    exact (show False from r).elim
  · have r := rel.val k
    rw [hp, ev] at r
    obtain ⟨o, es, ep, hq, h2, h3, h4, _, h5⟩ := dd'
    have I2 : Inv X pins σ (upd H a (.dT (dropK kvs k))) { s with heap := h', toks := tk } :=
      d_write I (by rw [ha]; exact True.intro) hs ⟨o, hq⟩ ⟨Nat.le_trans (dropK_le kvs k) z, hd, _, (KT_drop k rel).keeps (fun c ys ec => (by rw [upd_ne (ne_of ec ha (fun z => nomatch z))]; exact ec)), o, es, ep, hq, h2, h3, h4, h5⟩
    show EP X pins σ Q p.2 _
    exact ⟨v0, _, I2, r, q1⟩
end L2.DX
namespace NT
open PySem L2
section
variable {X : Cx} {T : TW}
/-- a method of a built-in type; the receiver is the first -/
def rM (T : TW) (f : OpF) : V → List V → Hp → VK → Prop := fun x xs H Q => rC T f (x :: xs) H Q
theorem MtR.cases {id : String} {r' : V → List V → Hp → VK → Prop} (h : ∀ x xs H Q, r' x xs H Q → ∃ r, MtR X id r ∧ r x xs H Q) : MtR X id r' := fun pins s σ H x xs v us Q I rx rs q => by
  obtain ⟨r, h1, h2⟩ := h x xs H Q q
  exact h1 pins s σ H x xs v us Q I rx rs h2
section
variable {H : Hp} {α : List Addr} {S : Sto} {Q : VK} {r : D}
/-- a cell is written, a plain value handed back -/
theorem finW {i : Nat} {a : Addr} {c : Cell} {o : HO} {v : V} (h : HR T H α S) (q : ∀ v H' α', Ext H α H' α' → HR T H' α' (S.set i c) → Rep T H' α' r v → Q v H') (hi : α[i]? = some a) (hc : CRep T H α c o) (hv : Rep T H α r v) (hw : ∃ u, H a = some u ∧ isFz u = false) (hn : ∀ c', c ≠ .frz c' := by intro c' z; cases z) : Q v (upd H a o) := by
  have e := Ext.write (H := H) (List.mem_of_getElem? hi) o
  exact q _ _ _ e (h.write hi hc hw hn) (hv.ext e)
/-- a new cell, handed back -/
theorem finN {p : Addr} {c : Cell} {o : HO} (h : HR T H α S) (q : ∀ v H' α', Ext H α H' α' → HR T H' α' (S ++ [c]) → Rep T H' α' (.ref S.length) v → Q v H') (hp : H p = none) (hc : CRep T H α c o) (hn : ∀ c', c ≠ .frz c' := by intro c' z; cases z) : Q (.ref p) (upd H p o) :=
  q _ _ _ (Ext.cell h hp o) (h.push hp hc hn) ⟨p, rfl, by rw [← h.len]; simp⟩
end
theorem RepL.eraseIdx {H : Hp} {α : List Addr} : ∀ {ds : List D} {vs : List V} (i : Nat), RepL T H α ds vs → RepL T H α (ds.eraseIdx i) (vs.eraseIdx i)
  | [], _, _, r => by cases r; exact rfl
  | _ :: _, _, 0, r => by
    obtain ⟨v, vs, rfl, h1, h2⟩ := r
    exact h2
  | _ :: _, _, i + 1, r => by
    obtain ⟨v, vs, rfl, h1, h2⟩ := r
    exact ⟨v, _, rfl, h1, RepL.eraseIdx i h2⟩
theorem RepL.dropLast {H : Hp} {α : List Addr} : ∀ {ds : List D} {vs : List V}, RepL T H α ds vs → RepL T H α ds.dropLast vs.dropLast
  | [], _, r => by cases r; exact rfl
  | [_], _, r => by
    obtain ⟨v, vs, rfl, h1, h2⟩ := r
    cases h2
    exact rfl
  | _ :: _ :: _, _, r => by
    obtain ⟨v, vs, rfl, h1, h2⟩ := r
    have := RepL.dropLast h2
    obtain ⟨w, ws, rfl, h3, h4⟩ := h2
    exact ⟨v, _, rfl, h1, this⟩

def appendD : OpF := fun S ds => match ds with
  | [.ref i, d] => match cellL S i with
    | some es => if es.length < sizeLine then some (.non, S.set i (.lst (es ++ [d]))) else none
    | none => none
  | _ => none
theorem append_ok : MtR X "list.append" (rM T appendD) := by
  refine MtR.cases fun x xs H Q ⟨α, S, ds, r, S', h, rs, e, q⟩ => ?_
  unfold appendD at e
  split at e
  · obtain ⟨v, w, ee, h1, h2⟩ := rs.two
    cases ee
    split at e
    · rename_i es e1
      split at e
      · rename_i hl
        cases e
        obtain ⟨a, vs, rfl, ha, hH, rl⟩ := cellL_ok h h1 e1
        exact ⟨_, mt_append, a, vs, w, rfl, rfl, hH, by rw [← rl.length]; exact hl, finW h q ha ⟨_, rfl, rl.append ⟨w, [], rfl, h2, rfl⟩⟩ rfl ⟨_, hH, rfl⟩⟩
      · cases e
    · cases e
  · cases e
def extendD : OpF := fun S ds => match ds with
  | [.ref i, d] => match cellL S i, trkL S d with
    | some es, some fs => if es.length + fs.length ≤ sizeLine then some (.non, S.set i (.lst (es ++ fs))) else none
    | _, _ => none
  | _ => none
theorem extend_ok : MtR X "list.extend" (rM T extendD) := by
  refine MtR.cases fun x xs H Q ⟨α, S, ds, r, S', h, rs, e, q⟩ => ?_
  unfold extendD at e
  split at e
  · obtain ⟨v, w, ee, h1, h2⟩ := rs.two
    cases ee
    split at e
    · rename_i es fs e1 e2
      split at e
      · rename_i hl
        cases e
        obtain ⟨a, vs, rfl, ha, hH, rl⟩ := cellL_ok h h1 e1
        obtain ⟨b, ws, rfl, hB, rl2⟩ := trkL_ok h h2 e2
        exact ⟨_, mt_extend, a, b, vs, ws, rfl, rfl, hH, hB, by rw [← rl.length, ← rl2.length]; exact hl, finW h q ha ⟨_, rfl, rl.append rl2⟩ rfl ⟨_, hH, rfl⟩⟩
      · cases e
    · cases e
  · cases e
def popLD : OpF := fun S ds => match ds with
  | [.ref i, .int k] => match cellL S i with
    | some es => if -(2 ^ 63) ≤ k ∧ k < 2 ^ 63 then match seqIndex? k es.length with
        | some j => match es[j]? with
          | some d => some (d, S.set i (.lst (es.eraseIdx j)))
          | none => none
        | none => none
      else none
    | none => none
  | _ => none
theorem popL_ok : MtR X "list.pop" (rM T popLD) := by
  refine MtR.cases fun x xs H Q ⟨α, S, ds, r, S', h, rs, e, q⟩ => ?_
  unfold popLD at e
  split at e
  · rename_i i k
    obtain ⟨v, w, ee, h1, h2⟩ := rs.two
    cases ee; cases h2
    split at e
    · rename_i es e1
      split at e
      · rename_i hk
        split at e
        · rename_i j e2
          split at e
          · rename_i d e3
            cases e
            obtain ⟨a, vs, rfl, ha, hH, rl⟩ := cellL_ok h h1 e1
            obtain ⟨y, e4, hy⟩ := rl.get e3
            exact ⟨_, mt_popAt, a, vs, k, j, y, rfl, rfl, hH, hk.1, hk.2, by rw [← rl.length]; exact e2, e4, finW h q ha ⟨_, rfl, rl.eraseIdx j⟩ hy ⟨_, hH, rfl⟩⟩
          · cases e
        · cases e
      · cases e
    · cases e
  · cases e

/-! dict.get, dict.pop -/
def dgetD : OpF := fun S ds => match ds with
  | [d, k] => (dGet S d k).map fun o => (o.getD .non, S)
  | [d, k, x] => (dGet S d k).map fun o => (o.getD x, S)
  | _ => none
theorem mt_dget1 (hu : X.A.units + 1 < cLine) : MtR X "dict.get" (fun x xs H Q => ∃ a y o, x = .ref a ∧ xs = [y] ∧ DGet H a y o ∧ Q (o.getD .non) H) := by
  intro pins s σ H x xs v us Q I rx rs h
  obtain ⟨a, y, o, rfl, rfl, g, q⟩ := h
  cases rx
  obtain ⟨u, rfl, ry⟩ := Vals.one rs
  exact d_get1 hu I g ry fun w' s3 I3 rw' => ⟨_, H, I3, rw', q⟩
theorem mt_dget2 (hu : X.A.units + 1 < cLine) : MtR X "dict.get" (fun x xs H Q => ∃ a y z o, x = .ref a ∧ xs = [y, z] ∧ DGet H a y o ∧ Q (o.getD z) H) := by
  intro pins s σ H x xs v us Q I rx rs h
  obtain ⟨a, y, z, o, rfl, rfl, g, q⟩ := h
  cases rx
  obtain ⟨u, u2, rfl, ry, rz⟩ := Vals.two rs
  exact d_get2 hu I g ry rz fun w' s3 I3 rw' => ⟨_, H, I3, rw', q⟩
theorem RO.getD {H : Hp} {α : List Addr} {x : D} {y : V} : ∀ {o : Option D} {r : Option V}, RO T H α o r → Rep T H α x y → Rep T H α (o.getD x) (r.getD y)
  | some _, _, ⟨v, e, h⟩, _ => by subst e; exact h
  | none, _, e, h => by cases (show _ = none from e); exact h
theorem dget_ok (hu : X.A.units + 1 < cLine) : MtR X "dict.get" (rM T dgetD) := by
  refine MtR.cases fun x xs H Q ⟨α, S, ds, r, S', h, rs, e, q⟩ => ?_
  unfold dgetD at e
  split at e
  · obtain ⟨v, w, ee, h1, h2⟩ := rs.two
    cases ee
    obtain ⟨o, e1, e2⟩ := Option.map_eq_some_iff.mp e
    cases e2
    obtain ⟨a, ro, rfl, g, hr⟩ := dGet_ok h h1 h2 e1
    exact ⟨_, mt_dget1 hu, a, _, ro, rfl, rfl, g, fin0 h q (hr.getD rfl)⟩
  · obtain ⟨v, vs, ee, h1, h2⟩ := rs
    obtain ⟨w, z, rfl, h3, h4⟩ := RepL.two h2
    cases ee
    obtain ⟨o, e1, e2⟩ := Option.map_eq_some_iff.mp e
    cases e2
    obtain ⟨a, ro, rfl, g, hr⟩ := dGet_ok h h1 h3 e1
    exact ⟨_, mt_dget2 hu, a, _, _, ro, rfl, rfl, g, fin0 h q (hr.getD h4)⟩
  · cases e
def cellK (S : Sto) (i : Nat) : Option (List (Key × D)) := match S[i]? with
  | some (.dK ds) => some ds
  | _ => none
theorem cellK_ok {H : Hp} {α : List Addr} {S : Sto} {i : Nat} {ds : List (Key × D)} {v : V} (h : HR T H α S) (r : Rep T H α (.ref i) v) (e : cellK S i = some ds) :
    ∃ a vs, v = .ref a ∧ α[i]? = some a ∧ H a = some (.dK vs) ∧ RepKV T H α ds vs := by
  unfold cellK at e
  split at e
  · rename_i ds' q
    cases e
    obtain ⟨a, rfl, h1⟩ := r
    obtain ⟨a', u, e2, e3, vs, rfl, e4⟩ := h.cell _ _ q
    rw [h1] at e2; cases e2
    exact ⟨a, vs, rfl, h1, e3, e4⟩
  · cases e
def dpopD : OpF := fun S ds => match ds with
  | [.ref i, k] => match cellK S i, keyOf k with
    | some kvs, some kk => match look kvs kk with
      | some d => some (d, S.set i (.dK (dropD kvs kk)))
      | none => none
    | _, _ => match S[i]?, k with
      | some (.dT kvs), .tup ks => (match keysOf ks with
        | some kk => (match look kvs kk with
          | some d => some (d, S.set i (.dT (dropD kvs kk)))
          | none => none)
        | none => none)
      | _, _ => none
  | [.ref i, k, x] => match cellK S i, keyOf k with
    | some kvs, some kk => match look kvs kk with
      | some d => some (d, S.set i (.dK (dropD kvs kk)))
      | none => some (x, S)
    | _, _ => none
  | _ => none
theorem mt_dpop1 : MtR X "dict.pop" (fun x xs H Q => ∃ a y kvs k v, x = .ref a ∧ xs = [y] ∧ H a = some (.dK kvs) ∧ y = kV k ∧ valV kvs k = some v ∧ Q v (upd H a (.dK (dropK kvs k)))) := by
  intro pins s σ H x xs v us Q I rx rs h
  obtain ⟨a, y, kvs, k, d, rfl, rfl, g, rfl, hv, q⟩ := h
  cases rx
  obtain ⟨u, rfl, ry⟩ := Vals.one rs
  exact d_pop I g ry hv (.inl rfl) fun w' s3 I3 rw' => ⟨_, _, I3, rw', q⟩
theorem mt_dpop2 : MtR X "dict.pop" (fun x xs H Q => ∃ a y z kvs k, x = .ref a ∧ xs = [y, z] ∧ H a = some (.dK kvs) ∧ y = kV k ∧ (∀ v, valV kvs k = some v → Q v (upd H a (.dK (dropK kvs k)))) ∧ (valV kvs k = none → Q z H)) := by
  intro pins s σ H x xs v us Q I rx rs h
  obtain ⟨a, y, z, kvs, k, rfl, rfl, g, rfl, q1, q2⟩ := h
  cases rx
  obtain ⟨u, u2, rfl, ry, rz⟩ := Vals.two rs
  cases l : valV kvs k with
  | some v => exact d_pop I g ry l (.inr ⟨u2, rfl⟩) fun w' s4 I4 rw' => ⟨v, _, I4, rw', q1 v l⟩
  | none => exact d_popD I g ry l fun s4 I4 => ⟨z, H, I4, rz, q2 l⟩
theorem dpop_ok (hu : X.A.units + 1 < cLine) : MtR X "dict.pop" (rM T dpopD) := by
  refine MtR.cases fun x xs H Q ⟨α, S, ds, r, S', h, rs, e, q⟩ => ?_
  unfold dpopD at e
  split at e
  · obtain ⟨v, w, ee, h1, h2⟩ := rs.two
    cases ee
    split at e
    · rename_i kvs kk e1 e2
      split at e
      · rename_i d e3
        cases e
        obtain ⟨a, vs, rfl, ha, hH, rl⟩ := cellK_ok h h1 e1
        have ro := rl.look kk
        rw [e3] at ro
        obtain ⟨v', e4, hv⟩ := ro
        exact ⟨_, mt_dpop1, a, w, vs, kk, v', rfl, rfl, hH, keyOf_rep h2 e2, e4, finW h q ha ⟨_, rfl, rl.drop kk⟩ hv ⟨_, hH, rfl⟩⟩
      · cases e
    · split at e
      · rename_i kvs ks q1 hno
        split at e
        · rename_i kk e2
          split at e
          · rename_i d e3
            cases e
            obtain ⟨a, rfl, ha⟩ := h1
            obtain ⟨a', u, e4, e5, ws, rfl, e6⟩ := h.cell _ _ q1
            rw [ha] at e4; cases e4
            obtain ⟨b, vs, rfl, l1, l2⟩ := h2
            have := keysOf_rep l2 e2
            subst this
            have ro := e6.look kk
            rw [e3] at ro
            obtain ⟨v', e7, hv⟩ := ro
            exact ⟨_, L2.DX.mt_popT1 hu, a, ws, kk, b, v', rfl, rfl, e5, l1.1, e7, finW h q ha ⟨_, rfl, e6.drop kk⟩ hv ⟨_, e5, rfl⟩⟩
          · cases e
        · cases e
      · cases e
  · obtain ⟨v, vs, ee, h1, h2⟩ := rs
    obtain ⟨w, z, rfl, h3, h4⟩ := RepL.two h2
    cases ee
    split at e
    · rename_i kvs kk e1 e2
      obtain ⟨a, vs, rfl, ha, hH, rl⟩ := cellK_ok h h1 e1
      have ro := rl.look kk
      split at e
      · rename_i d e3
        cases e
        rw [e3] at ro
        obtain ⟨v', e4, hv⟩ := ro
        refine ⟨_, mt_dpop2, a, w, z, vs, kk, rfl, rfl, hH, keyOf_rep h3 e2, fun v'' e5 => ?_, fun e5 => ?_⟩
        · rw [e4] at e5; cases e5
          exact finW h q ha ⟨_, rfl, rl.drop kk⟩ hv ⟨_, hH, rfl⟩
        · rw [e4] at e5; cases e5
      · rename_i e3
        cases e
        rw [e3] at ro
        refine ⟨_, mt_dpop2, a, w, z, vs, kk, rfl, rfl, hH, keyOf_rep h3 e2, fun v'' e5 => ?_, fun e5 => ?_⟩
        · rw [show valV vs kk = none from ro] at e5; cases e5
        · exact fin0 h q h4
    · cases e
  · cases e

/-! ### stores -/
def setS (S : Sto) (o k v : D) : Option Sto := match o with
  | .ref i => match S[i]? with
    | some (.dK kvs) => match keyOf k with
      | some kk => if kvs.length < sizeLine then some (S.set i (.dK (putD kvs kk v))) else none
      | none => none
    | some (.dT kvs) => match k with
      | .tup ds => match keysOf ds with
        | some kk => if kvs.length < sizeLine then some (S.set i (.dT (putD kvs kk v))) else none
        | none => none
      | _ => none
    | some (.lst ds) => match k with
      | .int n => match ixN ds.length n with
        | some j => some (S.set i (.lst (ds.set j v)))
        | none => none
      | _ => none
    | _ => none
  | _ => none
def rSet (T : TW) : V → V → V → Hp → (Hp → Prop) → Prop := fun o k v H Q =>
  ∃ α S do' dk dv S', HR T H α S ∧ Rep T H α do' o ∧ Rep T H α dk k ∧ Rep T H α dv v ∧ setS S do' dk dv = some S' ∧ ∀ H' α', Ext H α H' α' → HR T H' α' S' → Q H'
theorem PSet.cases {r' : TSet} (h : ∀ o k v H Q, r' o k v H Q → ∃ r, PSet X r ∧ r o k v H Q) : PSet X r' := fun pins s σ H o i v ov iv u Q I ro ri rv q => by
  obtain ⟨r, h1, h2⟩ := h o i v H Q q
  exact h1 pins s σ H o i v ov iv u Q I ro ri rv h2
theorem set_dict (hu : X.A.units + 1 < cLine) : PSet X (fun o i v H Q => ∃ a H', o = .ref a ∧ DPut H a i v H' ∧ Q H') := by
  intro pins s σ H o i v ov iv u Q I ro ri rv h
  obtain ⟨a, H', rfl, g, q⟩ := h
  cases ro
  exact d_setItem hu I g ri rv fun s' I' => ⟨_, I', q⟩
theorem set_ok (hu : X.A.units + 1 < cLine) : PSet X (rSet T) := by
  refine PSet.cases fun o k v H Q ⟨α, S, do', dk, dv, S', h, r1, r2, r3, e, q⟩ => ?_
  unfold setS at e
  split at e
  · obtain ⟨a, rfl, h1⟩ := r1
    split at e
    · rename_i kvs q1
      obtain ⟨a', u, e2, e3, ws, rfl, e4⟩ := h.cell _ _ q1
      rw [h1] at e2; cases e2
      split at e
      · rename_i kk e5
        split at e
        · rename_i hl
          cases e
          have := keyOf_rep r2 e5
          subst this
          exact ⟨_, set_dict hu, a, _, rfl, DPut.k e3 (by rw [← e4.length]; exact hl), q _ _ (Ext.write (List.mem_of_getElem? h1) _) (h.write h1 ⟨_, rfl, e4.put r3 kk⟩ ⟨_, e3, rfl⟩)⟩
        · cases e
      · cases e
    · rename_i kvs q1
      obtain ⟨a', u, e2, e3, ws, rfl, e4⟩ := h.cell _ _ q1
      rw [h1] at e2; cases e2
      split at e
      · split at e
        · rename_i kk e5
          split at e
          · rename_i hl
            cases e
            obtain ⟨b, vs, rfl, l1, l2⟩ := r2
            have := keysOf_rep l2 e5
            subst this
            exact ⟨_, set_dict hu, a, _, rfl, DPut.t e3 l1.1 (by rw [← e4.length]; exact hl), q _ _ (Ext.write (List.mem_of_getElem? h1) _) (h.write h1 ⟨_, rfl, e4.put r3 kk⟩ ⟨_, e3, rfl⟩)⟩
          · cases e
        · cases e
      · cases e
    · rename_i ds q1
      obtain ⟨a', u, e2, e3, ws, rfl, e4⟩ := h.cell _ _ q1
      rw [h1] at e2; cases e2
      split at e
      · split at e
        · rename_i j e5
          cases e
          cases r2
          exact ⟨_, set_list, a, ws, _, j, rfl, rfl, e3, by rw [← e4.length]; exact e5, q _ _ (Ext.write (List.mem_of_getElem? h1) _) (h.write h1 ⟨_, rfl, e4.set r3 j⟩ ⟨_, e3, rfl⟩)⟩
        · cases e
      · cases e
    · cases e
  · cases e
end
end NT
/-! turned tuples, dicts of pairs -/
namespace NT
open PySem L2
section
open PySem.Spec PyProof.Rows HT
variable {prog : Program} {w : World} {A : Around} {E : Value → Shared → Prop} {s : Shared}
theorem turnParts {sl : Addr} {vl vu vs : Value} {n : Nat} {Q : Int × Int × Nat → Shared → Prop} (hs : s.heap.IsSliceOf sl vl vu vs) (pl : IsPart vl none) (pu : IsPart vu none) (ps : IsPart vs (some (-1)))
    (h : Q ((n : Int) - 1, -1, n) s) : wpAny (model prog w) A (Builtin.Slice.sliceApplied (.ref sl) (pure (n : Int))) Q E s := by
  obtain ⟨ob, e1, e2, e3⟩ := id hs
  unfold Builtin.Slice.sliceApplied Builtin.Slice.sliceFields
  refine wpAny_bind (wpAny_bind (wpAny_field e1 e3 (x := vl) rfl (wpAny_bind (wpAny_field e1 e3 (x := vu) rfl (wpAny_bind (wpAny_field e1 e3 (x := vs) rfl (wpAny_pure ?_)))))))
  refine wpAny_bind (slicePart_ ps ?_)
  show wpAny _ _ (if ((-1 : Int) == 0) = true then _ else _) _ _ s
  rw [if_neg (by decide)]
  refine wpAny_bind (slicePart_ pl (wpAny_bind (slicePart_ pu (wpAny_bind (wpAny_pure ?_)))))
  have ea : Builtin.Slice.sliceAdjust none none (-1) (n : Int) = ((n : Int) - 1, -1) := by
    unfold Builtin.Slice.sliceAdjust
    simp
  have ep : Builtin.Slice.slicePlaces ((n : Int) - 1) (-1) (-1) = n := by
    unfold Builtin.Slice.slicePlaces
    simp
    try omega
  show wpAny _ _ (match Builtin.Slice.sliceAdjust none none (-1) (n : Int) with | (lo, hi) => pure (lo, (-1 : Int), Builtin.Slice.slicePlaces lo hi (-1))) _ _ s
  rw [ea]
  show wpAny _ _ (pure ((n : Int) - 1, (-1 : Int), Builtin.Slice.slicePlaces ((n : Int) - 1) (-1) (-1))) _ _ s
  rw [ep]
  exact wpAny_pure h
theorem fmap_congr {A B : Type} {f g : A → Option B} : ∀ {l : List A}, (∀ a ∈ l, f a = g a) → l.filterMap f = l.filterMap g
  | [], _ => rfl
  | a :: l, h => by
    rw [List.filterMap_cons, List.filterMap_cons, h a List.mem_cons_self, fmap_congr fun b hb => h b (List.mem_cons_of_mem _ hb)]
theorem turnPick (xs : Array Value) : ((List.range xs.size).filterMap fun (m : Nat) => xs[(((xs.size : Int) - 1) + (m : Int) * (-1)).toNat]?).toArray = xs.toList.reverse.toArray := by
  have e : ((List.range xs.size).filterMap fun (m : Nat) => xs[(((xs.size : Int) - 1) + (m : Int) * (-1)).toNat]?) = ((List.range xs.size).map fun k => xs.size - 1 - k).filterMap (xs[·]?) := by
    rw [List.filterMap_map]
    refine fmap_congr fun m hm => ?_
    have := List.mem_range.mp hm
    have e2 : (((xs.size : Int) - 1) + (m : Int) * (-1)).toNat = xs.size - 1 - m := by omega
    show xs[_]? = xs[_]?
    rw [e2]
  rw [e, PySem.W.krv_range, List.filterMap_reverse, PySem.W.krv_all]
theorem turnItem {t sl : Addr} {items : Array Value} {vl vu vs : Value} {Q : Value → Shared → Prop} (ht : IsTup s.heap t items) (hs : s.heap.IsSliceOf sl vl vu vs) (pl : IsPart vl none) (pu : IsPart vu none) (ps : IsPart vs (some (-1)))
    (h : Q (.ref s.heap.objs.size) { s with heap := s.heap.push { cls := .type "tuple", data := .seq items.toList.reverse.toArray } }) (hsz : items.size ≤ sizeLine) : wpAny (model prog w) A (getItem (.ref t) (.ref sl)) Q E s := by
  have hfit : sizeOk (.seq items.toList.reverse.toArray) := by
    show items.toList.reverse.toArray.size ≤ sizeLine
    rw [List.size_toArray, List.length_reverse, Array.length_toList]
    exact hsz
  obtain ⟨ob, e1, e2, e3⟩ := id hs
  have hT : s.TypeIs (.ref sl) "slice" := ⟨ob, e1, e2⟩
  unfold getItem
  try with_reducible refine wpAny_holding ?_
  first | refine wpAny_bind (wpAny_pure ?_) | skip
  refine wpAny_bind (wpAny_sequenceKey ht.typeIs (by decide) ?_)
  refine wpAny_bind (wpAny_callSpecial?_slot (name := Str.ofString "__getitem__") ht.typeIs PyProof.Rows.slot_tuple_getitem (wpAny_call_entry PyProof.Rows.slot_tuple_getitem ht.typeIs entry_tuple_getitem ?_ (args_tuple_getitem _ _)))
  show wpAny _ _ (Builtin.Tuple.tupleItemsOf (.ref t) >>= _) _ _ s
  refine wpAny_bind (tupleItemsOf_ ht ?_)
  refine wpAny_bind (wpAny_typeOf hT ?_)
  rw [if_pos (by decide)]
  refine wpAny_bind (turnParts hs pl pu ps ?_)
  have hno : ¬ ((((items.size : Int) - 1) == 0 && (-1 : Int) == 1 && items.size == items.size) = true) := by
    intro q
    rw [Bool.and_eq_true, Bool.and_eq_true] at q
    exact absurd q.1.2 (by decide)
  show wpAny _ _ (if (((items.size : Int) - 1) == 0 && (-1 : Int) == 1 && items.size == items.size) = true then _ else _) _ _ s
  rw [if_neg hno, turnPick]
  first
    | exact wpAny_bind (m := Builtin.Tuple.tupleExact _) (wpAny_newObj_type (wpAny_pure ⟨_, rfl, wpAny_pure h⟩) hfit)
    | exact wpAny_bind (m := Builtin.Tuple.tupleExact _) (wpAny_newObj_type (wpAny_bind (wpAny_pure (wpAny_pure ⟨_, rfl, wpAny_pure h⟩))) hfit)
    | exact wpAny_bind (wpAny_bind (m := Builtin.Tuple.tupleExact _) (wpAny_newObj_type (wpAny_pure (wpAny_pure ⟨_, rfl, wpAny_pure h⟩)) hfit))
    | exact wpAny_bind (wpAny_bind (m := Builtin.Tuple.tupleExact _) (wpAny_newObj_type (wpAny_pure ⟨_, rfl, wpAny_pure h⟩) hfit))
end
section
variable {X : Cx} {T : TW}
open PySem.Spec PyProof.Rows in
/-- t[::-1], xs[::-1] -/
def tTurn (K : PySem.W.Frag) (te : TE) : TE := fun σ H Q => te σ H fun x H1 => ∃ a xs, x = .ref a ∧ ((SqL K H1 a xs ∧ ∀ p, H1 p = none → Q (.ref p) (upd H1 p (.lst xs.reverse))) ∨ (SqT K H1 a xs ∧ ∀ p, H1 p = none → Q (.ref p) (upd H1 p (.tup xs.reverse))))
open PySem.Spec PyProof.Rows in
theorem pe_turn {e : Expr} {te : TE} {k : Nat} {p1 p2 p3 pos : Pos} (he : PE X e te) : PE X (.Subscript e (.Slice none none (some (.UnaryOp .USub (.Constant (.int 1) k p1) p2)) p3) pos) (tTurn X.K te) := by
  refine ⟨fun pins s σ H Q I h => ?_⟩
  refine Subscript_ (thn (he.run pins s σ H _ I h) fun v s1 ⟨x, H1, I1, r1, q1⟩ => ?_)
  obtain ⟨a, xs, ex, q⟩ := q1
  subst ex
  cases r1
  have hst : PO X (some (.UnaryOp .USub (.Constant (.int 1) k p1) p2)) (tPart (tUn (rU fun i => .int (-i)) (tC (.int 1)))) := po_some (pe_un un_neg pe_int)
  refine wpAny_Slice (thn (po_none.run pins s1 σ H1 (fun o H2 => o = none ∧ H2 = H1) I1 ⟨rfl, rfl⟩) fun vl s2 ⟨l, H2, I2, pl, el, e2⟩ => ?_)
  subst el e2
  refine thn (po_none.run pins s2 σ H2 (fun o H3 => o = none ∧ H3 = H2) I2 ⟨rfl, rfl⟩) fun vu s3 ⟨u, H3, I3, pu, eu, e3⟩ => ?_
  subst eu e3
  refine thn (hst.run pins s3 σ H3 (fun o H4 => o = some (-1) ∧ H4 = H3) I3 ⟨1, rfl, -1, rfl, rfl, rfl⟩) fun vs s4 ⟨o, H4, I4, ps, eo, e4⟩ => ?_
  subst eo e4
  have J : Inv X pins σ H4 { s4 with heap := s4.heap.push { cls := .type "slice", data := .fields #[vl, vu, vs] } } := I4.kept (t' := s4.toks) fun b ob q => Heap.get?_push_of_some _ q
  show wpAny (model X.prog X.w) X.A (subscriptTail e (.Slice none none (some (.UnaryOp .USub (.Constant (.int 1) k p1) p2)) p3) (.ref a) (.ref s4.heap.objs.size)) (EP X pins σ Q) X.xe { s4 with heap := s4.heap.push { cls := .type "slice", data := .fields #[vl, vu, vs] } }
  rcases q with ⟨hx, q⟩ | ⟨hx, q⟩
  · obtain ⟨its, r, ht, hz⟩ := J.list hx
    have hlen := r.length
    refine tail_any (ops := [.ref a, .ref s4.heap.objs.size]) ht.isList.typeIs (PySem.slot_list_getitem.lookup) ?_ (by with_unfolding_all rfl)
    refine wpAny_getItem_list_slice ht.isList (Heap.IsSliceOf.new _ vl vu vs) pl pu ps (by decide) ?_ (by rw [List.size_toArray]; omega)
    rw [PySem.W.krv_pick]
    refine ⟨.ref _, _, J.laid (t' := s4.toks) (o := .lst xs.reverse) (fun b ob q => Heap.get?_push_of_some _ q) (Nat.le_refl _) ?_, rfl, q _ (J.hok.fresh (Nat.le_refl _))⟩
    exact ⟨by rw [List.length_reverse]; exact hz, _, 0, r.reverse, Heap.get?_push_size _ rfl⟩
  · obtain ⟨its, r, ht, hz⟩ := J.tuple hx
    have hlen := r.length
    refine tail_any (ops := [.ref a, .ref s4.heap.objs.size]) ht.typeIs (PyProof.Rows.slot_tuple_getitem.lookup) ?_ (by with_unfolding_all rfl)
    refine turnItem ht (Heap.IsSliceOf.new _ vl vu vs) pl pu ps ?_ (by rw [List.size_toArray]; omega)
    refine ⟨.ref _, _, J.laid (t' := s4.toks) (o := .tup xs.reverse) (fun b ob q => Heap.get?_push_of_some _ q) (Nat.le_refl _) ?_, rfl, q _ (J.hok.fresh (Nat.le_refl _))⟩
    exact ⟨by rw [List.length_reverse]; exact hz, _, r.reverse, ⟨_, Heap.get?_push_size _ rfl, rfl, _, rfl⟩⟩
theorem RepL.reverse {H : Hp} {α : List Addr} : ∀ {ds : List D} {vs : List V}, RepL T H α ds vs → RepL T H α ds.reverse vs.reverse
  | [], _, r => by cases r; exact rfl
  | d :: ds, _, r => by
    obtain ⟨v, vs, rfl, h1, h2⟩ := r
    rw [List.reverse_cons, List.reverse_cons]
    exact (RepL.reverse h2).append ⟨v, [], rfl, h1, rfl⟩
/-- turned about -/
def turnD (S : Sto) (d : D) : Option D := match asSeq S d with
  | some (true, ds) => some (.lst ds.reverse)
  | some (false, ds) => some (.tup ds.reverse)
  | none => none

/-! ### dict(pairs), dict(d) -/
def tupOf : D → Option (List D)
  | .tup es => some es
  | .pt es => some es
  | .wt es => some es
  | _ => none
def pairsOf : List D → Option (List (Key × D))
  | [] => some []
  | d :: ds => match tupOf d with
    | some [k, v] => match keyOf k, pairsOf ds with
      | some kk, some r => some ((kk, v) :: r)
      | _, _ => none
    | _ => none
def mergeD (kvs more : List (Key × D)) : List (Key × D) := more.foldl (fun acc kv => putD acc kv.1 kv.2) kvs
theorem RepKV.merge {H : Hp} {α : List Addr} : ∀ {more : List (Key × D)} {mv : List (Key × V)} {kvs : List (Key × D)} {ws : List (Key × V)}, RepKV T H α more mv → RepKV T H α kvs ws → RepKV T H α (mergeD kvs more) (mergeK ws mv)
  | [], _, _, _, r, h => by cases r; exact h
  | kd :: more, _, kvs, ws, r, h => by
    obtain ⟨v, mv, rfl, h1, h2⟩ := r
    show RepKV T H α (mergeD (putD kvs kd.1 kd.2) more) (mergeK (putK ws kd.1 v) mv)
    exact RepKV.merge h2 (h.put h1 kd.1)
theorem pairs_rep {H : Hp} {α : List Addr} : ∀ {ds : List D} {vs : List V} {kvs : List (Key × D)}, pairsOf ds = some kvs → RepL T H α ds vs →
    ∃ (ps : List Addr) (ws : List (Key × V)), vs = ps.map V.ref ∧ RepKV T H α kvs ws ∧ PySem.Paired (fun p kv => SqT T.K H p [kV kv.1, kv.2]) ps ws
  | [], _, _, e, r => by
    cases e; cases r
    exact ⟨[], [], rfl, rfl, .nil⟩
  | d :: ds, _, kvs, e, r => by
    obtain ⟨v, vs, rfl, h1, h2⟩ := r
    rw [pairsOf] at e
    have key : ∀ {es : List D}, (∃ a us, v = .ref a ∧ SqT T.K H a us ∧ RepL T H α es us) → (match (some es : Option (List D)) with
        | some [k, v] => match keyOf k, pairsOf ds with
          | some kk, some r => some ((kk, v) :: r)
          | _, _ => none
        | _ => none) = some kvs → ∃ (ps : List Addr) (ws : List (Key × V)), v :: vs = ps.map V.ref ∧ RepKV T H α kvs ws ∧ PySem.Paired (fun p kv => SqT T.K H p [kV kv.1, kv.2]) ps ws := by
      rintro es ⟨a, us, rfl, sq, rl⟩ e
      split at e
      · rename_i k x heq
        cases heq
        split at e
        · rename_i kk r' ek er
          cases e
          obtain ⟨u1, u2, rfl, r1, r2⟩ := rl.two
          have := keyOf_rep r1 ek
          subst this
          obtain ⟨ps, ws, rfl, g1, g2⟩ := pairs_rep er h2
          exact ⟨a :: ps, (kk, u2) :: ws, rfl, ⟨u2, ws, rfl, r2, g1⟩, .cons sq g2⟩
        · cases e
      · cases e
    cases d with
    | tup es =>
      obtain ⟨a, us, rfl, l, rl⟩ := h1
      exact key ⟨a, us, rfl, l.sq, rl⟩ e
    | pt es =>
      obtain ⟨a, us, rfl, l, rl⟩ := h1
      exact key ⟨a, us, rfl, l.sq, rl⟩ e
    | wt es =>
      obtain ⟨a, us, rfl, l, rl⟩ := h1
      exact key ⟨a, us, rfl, l.sq, rl⟩ e
    | _ => cases e
def dictD : OpF := fun S ds => match ds with
  | [d] => match asSeq S d with
    | some (true, es) => (pairsOf es).map fun kvs => (.ref S.length, S ++ [.dK (mergeD [] kvs)])
    | some (false, es) => (match d with
      | .pt _ => (pairsOf es).map fun kvs => (.ref S.length, S ++ [.dK (mergeD [] kvs)])
      | _ => none)
    | none => match d with
      | .ref i => match S[i]? with
        | some (.dK kvs) => some (.ref S.length, S ++ [.dK kvs])
        | _ => none
      | _ => none
  | _ => none
section
open PySem.Spec PyProof.Rows
/-- dict(t) of a tuple of pairs that is known to the last bit -/
theorem call_dictPT (hcalm : X.calm = true) : CallR X (.type "dict") (fun xs H Q => ∃ (a : Addr) (o : Obj) (ps : List Addr) (kvs : List (Key × V)), xs = [.ref a] ∧ H a = some (.frz o (.tup (ps.map V.ref))) ∧ o.dict = none ∧ PySem.Paired (fun p kv => SqT X.K H p [kV kv.1, kv.2]) ps kvs ∧
    ∀ p, H p = none → Q (.ref p) (upd H p (.dK (mergeK [] kvs)))) := by
  intro pins s σ H xs us Q I r q
  obtain ⟨a, o, ps, kvs, ex, hq, hod, hp, q⟩ := q
  subst ex
  obtain ⟨u, eu, rx⟩ := vals1 r
  subst eu
  cases rx
  obtain ⟨ho, hz, its, rv, hT⟩ := I.hok a _ hq
  have ei := refs_at rv
  subst ei
  rw [List.length_map] at hz
  obtain ⟨prs, rel, hl, hpr⟩ := pairs_of I hp
  obtain ⟨o', ho', hc, n, hdat⟩ := hT
  rw [ho] at ho'
  cases ho'
  obtain ⟨kl, hkl⟩ : ∃ kl : List Value, kl.length = prs.length ∧ ∀ (j : Nat) (q : Key × Value), prs[j]? = some q → ∃ (b : Addr) (u : Value), kl[j]? = some u ∧ ps[j]? = some b ∧ IsTup s.heap b #[u, q.2] ∧ keyIs q.1 u = true := by
    have : ∀ (prs : List (Key × Value)) (ps : List Addr), (∀ (j : Nat) (q : Key × Value), prs[j]? = some q → ∃ (b : Addr) (u : Value), ps[j]? = some b ∧ IsTup s.heap b #[u, q.2] ∧ keyIs q.1 u = true) → ∃ kl : List Value, kl.length = prs.length ∧ ∀ (j : Nat) (q : Key × Value), prs[j]? = some q → ∃ (b : Addr) (u : Value), kl[j]? = some u ∧ ps[j]? = some b ∧ IsTup s.heap b #[u, q.2] ∧ keyIs q.1 u = true := by
      intro prs
      induction prs with
      | nil => exact fun ps _ => ⟨[], rfl, fun j q e => by simp at e⟩
      | cons pr prs ih =>
        intro ps h
        obtain ⟨b, u, e1, e2, e3⟩ := h 0 pr rfl
        obtain ⟨kl, l1, l2⟩ := ih (ps.drop 1) fun j q e => by
          obtain ⟨b, u, e1, e2, e3⟩ := h (j + 1) q (by simpa using e)
          exact ⟨b, u, by rw [List.getElem?_drop, Nat.add_comm]; exact e1, e2, e3⟩
        refine ⟨u :: kl, by simp [l1], fun j q e => ?_⟩
        cases j with
        | zero =>
          cases e
          exact ⟨b, u, rfl, e1, e2, e3⟩
        | succ j =>
          obtain ⟨b', u', f1, f2, f3, f4⟩ := l2 j q (by simpa using e)
          exact ⟨b', u', by simpa using f1, by rw [List.getElem?_drop, Nat.add_comm] at f2; exact f2, f3, f4⟩
    exact this prs ps hpr
  have hlen : (kl.zip (prs.map (·.2))).length = ps.length := by simp [hkl.1, hl]
  refine PySem.call_dict_pairs (knd := mixKind X.prog X.w) (kvs := prs) (PySem.PairArg.tuple a (ps.map Value.ref).toArray (fun j => ps.getD j 0) (kl.zip (prs.map (·.2)))) (I.ok.hd hcalm) ⟨⟨o, n, ho, hc, hod, hdat⟩, by simp [hlen], fun j k v e => ?_⟩ ⟨by rw [hlen, hl], fun j key v e => ?_⟩ (by rw [hlen]; exact hz) fun h' tk hd' k => ?_
  · obtain ⟨e1, e2⟩ := List.getElem?_zip_eq_some.mp e
    rw [List.getElem?_map, Option.map_eq_some_iff] at e2
    obtain ⟨q', e3, rfl⟩ := e2
    obtain ⟨b, u, f1, f2, f3, f4⟩ := hkl.2 j q' e3
    rw [f1] at e1
    cases e1
    refine ⟨by simp [f2, List.getD], ?_⟩
    have : ps.getD j 0 = b := by simp [List.getD, f2]
    show PairAt s.heap (ps.getD j 0) k q'.2
    rw [this]
    exact .inl f3
  · obtain ⟨e1, e2⟩ := List.getElem?_zip_eq_some.mp e
    rw [List.getElem?_map, Option.map_eq_some_iff] at e2
    obtain ⟨q', e3, rfl⟩ := e2
    obtain ⟨b, u, f1, f2, f3, f4⟩ := hkl.2 j q' e3
    rw [f1] at e1
    cases e1
    exact ⟨q'.1, e3, f4⟩
  · have hm : (s.heap.objs.size == sysModules) = false := beq_eq_false_iff_ne.mpr (Nat.ne_of_gt I.big)
    have hlen2 : (mergeK [] kvs).length ≤ sizeLine := by
      refine Nat.le_trans (length_mergeK kvs []) ?_
      rw [List.length_nil, Nat.zero_add, rel.length, hl]
      exact hz
    exact ⟨.ref s.heap.objs.size, upd H s.heap.objs.size (.dK (mergeK [] kvs)), I.laid (t' := tk) (fun b o e => k b o (by simp) e) (Nat.le_refl _) (show ObjOk X.prog X.w _ _ _ (.dK (mergeK [] kvs)) from ⟨hlen2, hm, merged [] prs, KV.merge rel .nil, hd'⟩), rfl, q _ (I.hok.fresh (Nat.le_refl _))⟩
end
theorem dict_ok (hK : X.K = T.K) (hc : X.calm = true) : CallR X (.type "dict") (rC T dictD) := by
  refine CallR.cases fun xs H Q ⟨α, S, ds, r, S', h, rs, e, q⟩ => ?_
  unfold dictD at e
  split at e
  · obtain ⟨v, rfl, h1⟩ := rs.one
    split at e
    · rename_i es e1
      obtain ⟨kvs, e2, e3⟩ := Option.map_eq_some_iff.mp e
      cases e3
      obtain ⟨a, vs, rfl, rl, sq⟩ := asSeq_ok h h1 e1
      obtain ⟨ps, ws, rfl, g1, g2⟩ := pairs_rep e2 rl
      rw [← hK] at sq g2
      exact ⟨_, call_dictP hc, a, ps, ws, rfl, by simpa using sq, g2, fun p hp => finN h q hp ⟨_, rfl, g1.merge rfl⟩⟩
    · rename_i es e1
      split at e
      · rename_i es'
        cases e1
        obtain ⟨kvs, e2, e3⟩ := Option.map_eq_some_iff.mp e
        cases e3
        obtain ⟨a, vs, rfl, ⟨o, q1, q2, q3⟩, rl⟩ := h1
        obtain ⟨ps, ws, rfl, g1, g2⟩ := pairs_rep e2 rl
        rw [← hK] at g2
        exact ⟨_, call_dictPT hc, a, o, ps, ws, rfl, q1, q2, g2, fun p hp => finN h q hp ⟨_, rfl, g1.merge rfl⟩⟩
      · cases e
    · split at e
      · split at e
        · rename_i kvs q1
          cases e
          obtain ⟨a, rfl, h2⟩ := h1
          obtain ⟨a', u, e2, e3, ws, rfl, e4⟩ := h.cell _ _ q1
          rw [h2] at e2; cases e2
          exact ⟨_, call_dictD, a, ws, rfl, .inl e3, fun p hp => finN h q hp ⟨_, rfl, e4⟩⟩
        · cases e
      · cases e
  · cases e
end
end NT
/-! sets of pairs, sorted; more methods -/
namespace L2
open PySem PySem.Spec PyProof.Rows
/-- a set just laid -/
abbrev nS (w : World) : Obj := { cls := .type "set", dict := none, data := .set #[] 0 (.fresh 0 0 (!w.params.followText "set-order")) }
section
variable {P : Program} {w : World} {A : Around} {E : Value → Shared → Prop} {s : Shared}
set_option maxRecDepth 100000 in
set_option maxHeartbeats 3200000 in
/-- set(t) of a tuple -/
theorem call_set_tupsT {l : Addr} {items : Array Value} (ks : List (Addr × List Int)) {Q : Value → Shared → Prop} (hh : A.handled = none) (hl : s.heap.IsTuple l items) (hit : items.toList = ks.map fun p => Value.ref p.1)
    (hk : ∀ p ∈ ks, IsT P w s.heap p.2 p.1) (hfew : ks.length < 64) (hu : A.units + 3 < cLine)
    (h : ∀ (h' : Heap) (tk : Nat) L es ep t, SetTR P w h' s.heap.objs.size L es ep t → Got ks ks.length L → (∀ b o, s.heap.get? b = some o → h'.get? b = some o) → Q (.ref s.heap.objs.size) { s with heap := h', toks := tk }) :
    wpAny (model P w) A (call (.type "set") [.ref l]) Q E s := by
  have hisz : items.size = ks.length := by
    have q := congrArg List.length hit
    rw [Array.length_toList, List.length_map] at q
    exact q
  obtain ⟨c, tl, hmro⟩ := F.called_set.mro
  have hmade := F.called_set.made
  have hsub := F.called_set.sub
  refine wpAny_call (codeAny_of_tree ?_)
  show wpAny _ _ (callAny (.type "set") _) _ _ _
  refine wpAny_pure ⟨Code.quiet_builtin _ (by decide +kernel), codeAny_builtin F.entry_type_call ?_⟩
  rw [Around.under_plain (weight_type_call_type "set" [.ref l] []) rfl]
  have h1 := F.called_set.notType
  have h2 := F.called_set.canCreate
  have hct := F.typeCall_set_1 (.ref l)
  repeat (any_goals (first | assumption | wp_step))

  refine codeAny_mono (code_set_led1 (.ref l) (E := E) (Q₁ := fun obj s₁ => obj = .ref s.heap.objs.size ∧ s₁ = { s with heap := s.heap.push (nS w) }) ⟨rfl, rfl⟩) fun r s₁ hr => ?_
  cases r with
  | error e => exact hr
  | ok fl =>
    cases fl with
    | ret obj =>
      obtain ⟨rfl, rfl⟩ := hr
      have hS : (s.heap.push (nS w)).get? s.heap.objs.size = some (nS w) := Heap.get?_push_size _ rfl
      have hT : Shared.TypeIs { s with heap := s.heap.push (nS w) } (.ref s.heap.objs.size) "set" := ⟨_, hS, rfl⟩
      have hli := F.called_set.init.lookup
      have hbi := F.called_set.init.bind (.ref s.heap.objs.size)
      repeat (any_goals (first | assumption | wp_step))

      refine codeAny_mono (codeAny_call_builtin (R := wants (fun r s₂ => r = .none ∧ ∃ h' tk L es ep t, s₂ = { s with heap := h', toks := tk } ∧ SetTR P w h' s.heap.objs.size L es ep t ∧ Got ks ks.length L ∧
          (∀ b o, s.heap.get? b = some o → h'.get? b = some o)) E) F.called_set.init.plain F.entry_set_init (check_set_init_1 hT ?_)) fun r₂ s₂ hr₂ => ?_
      · obtain ⟨ol, hol, hcl, nl, hdl⟩ := hl
        obtain ⟨ocls, odict, odata, oslots⟩ := ol
        simp only at hcl hdl
        subst hcl; subst hdl
        have hol' : (s.heap.push (nS w)).get? l = some { cls := .type "tuple", dict := odict, data := .seq items nl, slots := oslots } := Heap.get?_push_of_some _ hol
        have hsls := F.sub_tuple_set
        have hslf := F.sub_tuple_frozenset
        have hne : (Value.type "tuple" == Value.type "dict") = false := by decide
        have hl1 : (s.heap.push (nS w)).IsTuple l items := ⟨_, hol', rfl, nl, rfl⟩
        unfold Builtin.«set.__init__» noKeywords Builtin.Frozenset.updateFrom
        generalize hPI : pyIter = PI
        wp_walk
        subst hPI

        refine wpAny_pyIter_tuple hl1 ?_
        refine wpAny_bind (wpAny_runValue ?_)
        have hlS : l < s.heap.objs.size := Heap.lt_size hol
        have hh3 : A.in1.in1.in1.handled = none := by simp [hh]
        have hz1 : (s.heap.push (nS w)).objs.size = s.heap.objs.size + 1 := Heap.size_push ..
        have hneI : l ≠ (s.heap.push (nS w)).objs.size := by
          rw [Heap.size_push]; exact Nat.ne_of_lt (Nat.lt_succ_of_lt hlS)
        have hSf : s.heap.objs.size ∉ [(s.heap.push (nS w)).objs.size, l] := by
          rw [Heap.size_push]; simp only [List.mem_cons, List.mem_singleton, List.not_mem_nil, or_false, not_or]
          exact ⟨Nat.ne_of_lt (Nat.lt_succ_self _), Nat.ne_of_gt hlS⟩
        have hval : ∀ (i : Nat) (v : Value), items[i]? = some v → ∃ p, ks[i]? = some p ∧ v = .ref p.1 := fun i v hv => by
          have q : items.toList[i]? = some v := by rw [Array.getElem?_toList]; exact hv
          rw [hit, List.getElem?_map] at q
          cases hq : ks[i]? with
          | none => rw [hq] at q; cases q
          | some p =>
            rw [hq] at q
            exact ⟨p, rfl, (Option.some.inj q).symm⟩
        have none_of : ∀ b, s.heap.objs.size ≤ b → s.heap.get? b = none := fun b hb => by
          cases q : s.heap.get? b with
          | none => rfl
          | some o => exact absurd (Nat.lt_of_lt_of_le (Heap.lt_size q) hb) (Nat.lt_irrefl _)
        refine set_update_tups ((Walks.tuple hh3 _ l hneI items).toS) s.heap.objs.size
          hSf ks hisz hfew hval s.heap hk (none_of _ (Nat.le_refl _)) (fun b hb => none_of b (by
            rw [List.mem_singleton.mp hb, Heap.size_push]
            exact Nat.le_succ _)) hu (items.size - 0) 0 _ (by omega) (Nat.zero_le _)
          ⟨⟨_, Heap.get?_push_size _ rfl, rfl, rfl⟩, (hl1.push _)⟩ (fun b o e => Heap.get?_push_of_some _ (Heap.get?_push_of_some _ e)) ?hS0 ?hR
        case hS0 =>
          have hget : ((s.heap.push (nS w)).push { cls := .type "tuple_iterator", data := .fields #[.ref l, .int 0 0] }).get? s.heap.objs.size
              = some (nS w) := Heap.get?_push_of_some _ hS
          exact ⟨[], #[], 0, _, setTR_fresh hget, Got.zero ks⟩
        case hR =>
          intro s' L es ep t hm hS' g' hkp
          obtain ⟨h', g2, d', tk', os'⟩ := s'
          have eg : g2 = s.gens := hm.gens
          have ed : d' = s.drawn := hm.drawn
          have eo : os' = s.os := hm.os
          subst eg; subst ed; subst eo
          show wpAny _ _ _ _ _ _
          refine wpAny_pure ?_
          show wpAny _ _ (ret Value.none) _ _ _
          rw [hisz] at g'
          exact wpAny_pure ⟨rfl, h', tk', L, es, ep, t, rfl, hS', g', hkp⟩

      · cases r₂ with
        | error e => exact hr₂
        | ok fl₂ =>
          cases fl₂ with
          | ret r =>
            obtain ⟨rfl, h', tk, L, es, ep, t, rfl, hS', g', hk'⟩ := hr₂
            repeat (any_goals (first | assumption | wp_step))
            exact h _ _ _ _ _ _ hS' g' hk'
          | _ => exact hr₂.elim
    | _ => exact hr.elim

end
section
variable {X : Cx}
/-- set(t), t a tuple of tuples of ints -/
theorem cr_setOfTT (hc : X.calm = true) (hu : X.A.units + 64 < cLine) : CallR X (.type "set") (fun xs H Q => ∃ (l : Addr) (ks : List (Addr × List Int)), xs = [V.ref l] ∧ SqT X.K H l (ks.map fun p => V.ref p.1) ∧ (∀ p ∈ ks, SqT X.K H p.1 (p.2.map V.int)) ∧ ks.length < 64 ∧
    ∀ a L, H a = none → (∀ p ∈ L, p ∈ ks) → (∀ p ∈ ks, p.2 ∈ L.map (·.2)) → Q (.ref a) (upd H a (SetTO X.prog X.w a L))) := by
  intro pins s σ H xs us Q I r h
  obtain ⟨l, ks, rfl, hl, hk, hf, q⟩ := h
  rw [Vals.ref1 r]
  obtain ⟨its, rv, pl, hz⟩ := I.tuple hl
  have hn : H s.heap.objs.size = none := I.hok.fresh (Nat.le_refl _)
  refine call_set_tupsT (P := X.prog) (w := X.w) ks (I.ok.hd hc) pl (by simpa using refs_of_vals rv) (fun p hp => I.isT (hk p hp)) hf (by omega) fun h' tk L es ep t R g k => ?_
  refine ⟨.ref s.heap.objs.size, upd H s.heap.objs.size (SetTO X.prog X.w s.heap.objs.size L), I.laid (t' := tk) k (Nat.le_refl _) (setTO_new R.t0), rfl, q _ L hn (fun p hp => ?_) fun p hp => ?_⟩
  · exact List.mem_of_mem_take (g.sub p hp)
  · exact g.all p (by rw [List.take_length]; exact hp)
end
end L2
namespace L2
open PySem PySem.Spec PyProof.Rows
section
variable {X : Cx}
/-- d.setdefault(k, y) -/
theorem mt_setdK : MtR X "dict.setdefault" (fun x xs H Q => ∃ (a : Addr) (kvs : List (Key × V)) (k : Key) (d : V), x = .ref a ∧ xs = [kV k, d] ∧ H a = some (.dK kvs) ∧ kvs.length < sizeLine ∧
    (∀ v, valV kvs k = some v → Q v H) ∧ (valV kvs k = none → Q d (upd H a (.dK (putK kvs k d))))) := by
  intro pins s σ H x xs v us Q I rx rxs h
  obtain ⟨a, kvs, k, d, rfl, rfl, ha, hl, q1, q2⟩ := h
  cases rx
  obtain ⟨u1, u2, rfl, r1, r2⟩ := rxs.two
  exact d_setd I ha r1 r2 hl (fun v hv w' s' I' rw' => ⟨v, _, I', rw', q1 v hv⟩) fun hn w' s' I' rw' => ⟨d, _, I', rw', q2 hn⟩
theorem mt_setdT (hu : X.A.units + 1 < cLine) : MtR X "dict.setdefault" (fun x xs H Q => ∃ (a : Addr) (kvs : List (List Key × V)) (k : List Key) (b : Addr) (d : V), x = .ref a ∧ xs = [.ref b, d] ∧ H a = some (.dT kvs) ∧ H b = some (.tup (k.map kV)) ∧ kvs.length < sizeLine ∧
    (∀ v, valV kvs k = some v → Q v H) ∧ (valV kvs k = none → Q d (upd H a (.dT (putK kvs k d))))) := by
  intro pins s σ H x xs v us Q I rx rxs h
  obtain ⟨a, kvs, k, b, d, rfl, rfl, ha, hb, hl, q1, q2⟩ := h
  cases rx
  obtain ⟨u1, u2, rfl, r1, r2⟩ := rxs.two
  cases r1
  obtain ⟨z, hd, xs', rel, dd⟩ := dt_of I.hok ha
  have hz : xs'.length ≤ sizeLine := by rw [← Paired.length rel]; exact z
  refine call_setdefault_heap (hsz := hz) (tupleKind_room_in1 hu) (key_of I.hok hb) hd dd (fun p hp => ?_) fun hn h' dd' hs => ?_
  · have r := rel.val k
    rw [hp] at r
    cases ev : valV kvs k with
    | none =>
      rw [ev] at r
      exact (show False from r).elim
    | some v0 =>
      rw [ev] at r
      exact ⟨v0, H, I.tok _, r, q1 v0 ev⟩
  · have r := rel.val k
    rw [hn] at r
    have e : valV kvs k = none := by
      cases ev : valV kvs k with
      | none => rfl
      | some v0 =>
        rw [ev] at r
        exact (show False from r).elim
    have hl2 : (putK kvs k d).length ≤ sizeLine := by have := length_putK kvs k d; omega
    obtain ⟨q, es, ep, hq, h2, h3, h4, _, h5⟩ := dd'
    refine ⟨d, upd H a (.dT (putK kvs k d)), d_write I (by rw [ha]; exact True.intro) hs ⟨q, hq⟩ ⟨hl2, hd, _, (rel.put k hb r2).keeps fun c ys ec => ?_, q, es, ep, hq, h2, h3, h4, h5⟩, r2, q2 e⟩
    rw [upd_ne (ne_of ec ha (fun z => nomatch z))]
    exact ec
/-- a receiver of the built-in type, locked dicts with it -/
def tyW (K : PySem.W.Frag) (Ty : String) (x : V) (H : Hp) : Prop := tyV K Ty x H ∨ (Ty = "dict" ∧ ∃ a, x = .ref a ∧ IsD H a)
theorem tyW_is {pins : List (Addr × Obj)} {σ : St} {H : Hp} {s : Shared} {Ty : String} {x : V} {v : Value} (I : Inv X pins σ H s) (r : RelV x v) (ty : tyW X.K Ty x H) :
    s.TypeIs v Ty ∧ ∀ a, v = .ref a → ∃ ob, s.heap.get? a = some ob ∧ ob.dict = none := by
  rcases ty with ty | ⟨rfl, a, rfl, d⟩
  · exact tyV_is I r ty
  · cases r
    exact ⟨(isD_at I d).1, (isD_at I d).2.1⟩
def tBMW (K : PySem.W.Frag) (Ty : String) (r : V → List V → Hp → VK → Prop) (to : TE) (t : TA) : TE := fun σ H Q => to σ H fun x H1 => tyW K Ty x H1 ∧ t σ H1 fun vs H2 => r x vs H2 Q
theorem pe_bmW {o e : Expr} {es : List Expr} {to : TE} {t : TA} {Ty id : String} {name : Str} {apos cpos : Pos} {r : V → List V → Hp → VK → Prop} (pa : PlainAttrs Ty) (slot : Slot Ty name id) (hty : typeOf (.builtin id) = pure (.type "method_descriptor")) (hm : MtR X id r) (ho : PE X o to) (ha : PA X (e :: es) t)
    (hbase : attributeBase o name X.env (eval o X.env) = eval o X.env)
    (hfew : ((backTo cpos (starEach (e :: es) X.env)).all (fun x => !x.1) && (backToKw cpos (keywordEach [] X.env)).all (fun x => x.1.isSome)
      && decide ((e :: es).length + ([] : List Keyword).length + (if ([] : List Keyword).isEmpty then 0 else 1) < 30)) = true)
    (hline : (apos.endLine == cpos.line) = true) (hs : starEach (e :: es) X.env = (false, eval e X.env) :: starEach es X.env) (hplain : (backTo cpos (starEach es X.env)).any (·.1) = false) :
    PE X (.Call (.Attribute o name apos) (e :: es) [] cpos) (tBMW X.K Ty r to t) := by
  refine ⟨fun pins s σ H Q I h => ?_⟩
  refine wpAny_Call_method_late hbase hfew hline rfl (thn (ho.run pins s σ H _ I h) fun v s1 ⟨x, H1, I1, r1, ty, q1⟩ => ?_)
  obtain ⟨h1, h2⟩ := tyW_is I1 r1 ty
  refine ⟨Ty, id, pa, slot, hty, h1, h2, ?_⟩
  have hA := ha.run cpos pins s1 σ H1 _ I1 q1
  rw [hs] at hA ⊢
  refine Calls.callWith_builtin (by show (false || (backTo cpos (starEach es X.env)).any (·.1)) = false; rw [hplain] <;> rfl) (Calls.evalArgs_plain ?_)
  exact thn hA fun us s2 ⟨vs, H2, I2, r2, q2⟩ => hm pins s2 σ H2 x vs v us Q I2 r1 r2 q2
end
end L2
namespace NT
open PySem L2
section
variable {X : Cx} {T : TW}
/-! ### more methods -/
def insertD : OpF := fun S ds => match ds with
  | [.ref i, .int k, d] => match cellL S i with
    | some es => if es.length < sizeLine ∧ 0 ≤ k ∧ k < 2 ^ 62 then some (.non, S.set i (.lst (es.take k.toNat ++ [d] ++ es.drop k.toNat))) else none
    | none => none
  | _ => none
theorem insert_ok : MtR X "list.insert" (rM T insertD) := by
  refine MtR.cases fun x xs H Q ⟨α, S, ds, r, S', h, rs, e, q⟩ => ?_
  unfold insertD at e
  split at e
  · rename_i i k d
    obtain ⟨v, vs, ee, h1, h2⟩ := rs
    obtain ⟨w, z, rfl, h3, h4⟩ := RepL.two h2
    cases ee; cases h3
    split at e
    · rename_i es e1
      split at e
      · rename_i hk
        cases e
        obtain ⟨a, vs, rfl, ha, hH, rl⟩ := cellL_ok h h1 e1
        exact ⟨_, mt_insert, a, vs, k, z, rfl, rfl, hH, by rw [← rl.length]; exact hk.1, hk.2.1, by have := hk.2.2; omega, finW h q ha ⟨_, rfl, ((rl.take k.toNat).append (show RepL T H α [d] [z] from ⟨z, [], rfl, h4, rfl⟩)).append (rl.drop k.toNat)⟩ rfl ⟨_, hH, rfl⟩⟩
      · cases e
    · cases e
  · cases e
theorem idx_le {k : Int} : ∀ {ns : List Int} {m : Nat}, ns[m]? = some k → ns.idxOf k ≤ m
  | [], _, e => by simp at e
  | n :: ns, 0, e => by
    simp at e
    subst e
    simp
  | n :: ns, m + 1, e => by
    have := idx_le (ns := ns) (m := m) (by simpa using e)
    rw [List.idxOf_cons]
    by_cases hn : (n == k) = true
    · simp [hn]
    · simp [hn, this]
def removeD : OpF := fun S ds => match ds with
  | [.ref i, .int k] => match cellL S i with
    | some es => match asInts es with
      | some ns => if k ∈ ns then some (.non, S.set i (.lst ((ns.erase k).map .int))) else none
      | none => none
    | none => none
  | _ => none
theorem remove_ok : MtR X "list.remove" (rM T removeD) := by
  refine MtR.cases fun x xs H Q ⟨α, S, ds, r, S', h, rs, e, q⟩ => ?_
  unfold removeD at e
  split at e
  · rename_i i k
    obtain ⟨v, w, ee, h1, h2⟩ := rs.two
    cases ee; cases h2
    split at e
    · rename_i es e1
      split at e
      · rename_i ns e2
        split at e
        · rename_i hk
          cases e
          obtain ⟨a, vs, rfl, ha, hH, rl⟩ := cellL_ok h h1 e1
          have e3 := asInts_eq e2
          subst e3
          have e4 := rl.ints
          subst e4
          have hlt := List.idxOf_lt_length_of_mem hk
          refine ⟨_, mt_remove, a, ns, k, ns.idxOf k, rfl, rfl, hH, ?_, fun m hm e5 => ?_, ?_⟩
          · rw [List.getElem?_eq_getElem hlt, List.getElem_idxOf hlt]
          · have := idx_le e5
            omega
          · rw [← List.erase_eq_eraseIdx_of_idxOf rfl]
            exact finW h q ha ⟨_, rfl, RepL.of_ints _⟩ rfl ⟨_, hH, rfl⟩
        · cases e
      · cases e
    · cases e
  · cases e
def cellT (S : Sto) (i : Nat) : Option (List (List Key × D)) := match S[i]? with
  | some (.dT ds) => some ds
  | _ => none
theorem cellT_ok {H : Hp} {α : List Addr} {S : Sto} {i : Nat} {ds : List (List Key × D)} {v : V} (h : HR T H α S) (r : Rep T H α (.ref i) v) (e : cellT S i = some ds) :
    ∃ a vs, v = .ref a ∧ α[i]? = some a ∧ H a = some (.dT vs) ∧ RepKV T H α ds vs := by
  unfold cellT at e
  split at e
  · rename_i ds' q
    cases e
    obtain ⟨a, rfl, h1⟩ := r
    obtain ⟨a', u, e2, e3, vs, rfl, e4⟩ := h.cell _ _ q
    rw [h1] at e2; cases e2
    exact ⟨a, vs, rfl, h1, e3, e4⟩
  · cases e
def setdefD : OpF := fun S ds => match ds with
  | [.ref i, k, x] => match S[i]? with
    | some (.dK kvs) => match keyOf k with
      | some kk => if kvs.length < sizeLine then (match look kvs kk with
        | some d => some (d, S)
        | none => some (x, S.set i (.dK (putD kvs kk x)))) else none
      | none => none
    | some (.dT kvs) => match k with
      | .tup ks => match keysOf ks with
        | some kk => if kvs.length < sizeLine then (match look kvs kk with
          | some d => some (d, S)
          | none => some (x, S.set i (.dT (putD kvs kk x)))) else none
        | none => none
      | _ => none
    | _ => none
  | _ => none
theorem setdef_ok (hu : X.A.units + 1 < cLine) : MtR X "dict.setdefault" (rM T setdefD) := by
  refine MtR.cases fun x xs H Q ⟨α, S, ds, r, S', h, rs, e, q⟩ => ?_
  unfold setdefD at e
  split at e
  · rename_i i k y
    obtain ⟨v, vs, ee, h1, h2⟩ := rs
    obtain ⟨w, z, rfl, h3, h4⟩ := RepL.two h2
    cases ee
    obtain ⟨a, rfl, ha⟩ := h1
    split at e
    · rename_i kvs q1
      obtain ⟨a', u, e2, e3, ws, rfl, e4⟩ := h.cell _ _ q1
      rw [ha] at e2; cases e2
      split at e
      · rename_i kk ek
        split at e
        · rename_i hl
          have := keyOf_rep h3 ek
          subst this
          have ro := e4.look kk
          split at e
          · rename_i d ed
            cases e
            rw [ed] at ro
            obtain ⟨v', e5, hv⟩ := ro
            refine ⟨_, mt_setdK, a, ws, kk, z, rfl, rfl, e3, by rw [← e4.length]; exact hl, fun v'' e6 => ?_, fun e6 => ?_⟩
            · rw [e5] at e6; cases e6
              exact fin0 h q hv
            · rw [e5] at e6; cases e6
          · rename_i ed
            cases e
            rw [ed] at ro
            refine ⟨_, mt_setdK, a, ws, kk, z, rfl, rfl, e3, by rw [← e4.length]; exact hl, fun v'' e6 => ?_, fun e6 => ?_⟩
            · rw [show valV ws kk = none from ro] at e6; cases e6
            · exact finW h q ha ⟨_, rfl, e4.put h4 kk⟩ h4 ⟨_, e3, rfl⟩
        · cases e
      · cases e
    · rename_i kvs q1
      obtain ⟨a', u, e2, e3, ws, rfl, e4⟩ := h.cell _ _ q1
      rw [ha] at e2; cases e2
      split at e
      · rename_i ks
        split at e
        · rename_i kk ek
          split at e
          · rename_i hl
            obtain ⟨b, us, rfl, l1, l2⟩ := h3
            have := keysOf_rep l2 ek
            subst this
            have ro := e4.look kk
            split at e
            · rename_i d ed
              cases e
              rw [ed] at ro
              obtain ⟨v', e5, hv⟩ := ro
              refine ⟨_, mt_setdT hu, a, ws, kk, b, z, rfl, rfl, e3, l1.1, by rw [← e4.length]; exact hl, fun v'' e6 => ?_, fun e6 => ?_⟩
              · rw [e5] at e6; cases e6
                exact fin0 h q hv
              · rw [e5] at e6; cases e6
            · rename_i ed
              cases e
              rw [ed] at ro
              refine ⟨_, mt_setdT hu, a, ws, kk, b, z, rfl, rfl, e3, l1.1, by rw [← e4.length]; exact hl, fun v'' e6 => ?_, fun e6 => ?_⟩
              · rw [show valV ws kk = none from ro] at e6; cases e6
              · exact finW h q ha ⟨_, rfl, e4.put h4 kk⟩ h4 ⟨_, e3, rfl⟩
          · cases e
        · cases e
      · cases e
    · cases e
  · cases e
end
end NT
/-! sorted(set(t)), own methods, own exceptions, dicts walked -/
namespace NT
open PySem L2
/-! ### sorted(set(t)), t a tuple of pairs -/
def pr (p : Int × Int) : D := .tup [.int p.1, .int p.2]
def prLe (p q : Int × Int) : Bool := decide (p.1 < q.1 ∨ (p.1 = q.1 ∧ p.2 ≤ q.2))
theorem prLe_trans : ∀ a b c : Int × Int, prLe a b = true → prLe b c = true → prLe a c = true := by
  intro a b c
  simp only [prLe, decide_eq_true_eq]
  omega
theorem prLe_total : ∀ a b : Int × Int, (prLe a b || prLe b a) = true := by
  intro a b
  simp only [prLe, Bool.or_eq_true, decide_eq_true_eq]
  omega
theorem prLe_anti {a b : Int × Int} (h : prLe a b = true) (h' : prLe b a = true) : a = b := by
  simp only [prLe, decide_eq_true_eq] at h h'
  exact Prod.ext (by omega) (by omega)
/-- each once -/
def ddup {A : Type} [DecidableEq A] : List A → List A
  | [] => []
  | a :: l => if a ∈ l then ddup l else a :: ddup l
theorem mem_ddup {A : Type} [DecidableEq A] {x : A} : ∀ {l : List A}, x ∈ ddup l ↔ x ∈ l
  | [] => Iff.rfl
  | a :: l => by
    have ih := mem_ddup (x := x) (l := l)
    unfold ddup
    split
    · rename_i h
      rw [ih, List.mem_cons]
      exact ⟨.inr, fun z => z.elim (fun e => e ▸ h) id⟩
    · rw [List.mem_cons, List.mem_cons, ih]
theorem nodup_ddup {A : Type} [DecidableEq A] : ∀ (l : List A), (ddup l).Nodup
  | [] => List.nodup_nil
  | a :: l => by
    unfold ddup
    split
    · exact nodup_ddup l
    · rename_i h
      exact List.nodup_cons.mpr ⟨fun z => h (mem_ddup.mp z), nodup_ddup l⟩
def sset (ns : List (Int × Int)) : List (Int × Int) := (ddup ns).mergeSort prLe
theorem sset_uniq {ns ms : List (Int × Int)} (h1 : ms.Nodup) (h2 : ∀ p, p ∈ ms ↔ p ∈ ns) (h3 : ms.Pairwise fun a b => prLe a b = true) : ms = sset ns := by
  unfold sset
  refine List.Perm.eq_of_pairwise (fun a b _ _ x y => prLe_anti x y) h3 (List.pairwise_mergeSort prLe_trans prLe_total _) ?_
  refine List.Perm.trans ?_ (List.mergeSort_perm _ _).symm
  exact (List.perm_ext_iff_of_nodup h1 (nodup_ddup ns)).mpr fun p => (h2 p).trans mem_ddup.symm
def prsI : List D → Option (List (Int × Int))
  | [] => some []
  | .tup [.int a, .int b] :: ds => (prsI ds).map ((a, b) :: ·)
  | _ => none
theorem prsI_map : ∀ ns : List (Int × Int), prsI (ns.map pr) = some ns
  | [] => rfl
  | (a, b) :: ns => by simp [prsI, pr, prsI_map ns]
def ssetD (S : Sto) (x : D) : Option D := match asSeq S x with
  | some (false, es) => match prsI es with
    | some ns => if ns.length < 64 ∧ (∀ p ∈ ns, (0 ≤ p.1 ∧ p.1 < 64) ∧ 0 ≤ p.2 ∧ p.2 < 64) then some (.lst ((sset ns).map pr)) else none
    | none => none
  | _ => none
theorem ssetD_pr {S : Sto} {ns : List (Int × Int)} (h : ns.length < 64) (h2 : ∀ p ∈ ns, (0 ≤ p.1 ∧ p.1 < 64) ∧ 0 ≤ p.2 ∧ p.2 < 64) : ssetD S (.tup (ns.map pr)) = some (.lst ((sset ns).map pr)) := by
  simp only [ssetD, asSeq, prsI_map]
  rw [if_pos ⟨h, h2⟩]
abbrev prV (p : Int × Int) : List Int := [p.1, p.2]
section
variable {X : Cx} {T : TW} {H : Hp} {α : List Addr} {S : Sto}
theorem prs_rep : ∀ {es : List D} {vs : List V} {ns : List (Int × Int)}, prsI es = some ns → RepL T H α es vs →
    ∃ ks : List (Addr × List Int), vs = ks.map (fun p => V.ref p.1) ∧ ks.map (·.2) = ns.map prV ∧ ∀ p ∈ ks, H p.1 = some (.tup (p.2.map V.int)) ∧ p.1 ∉ α
  | [], _, _, e, r => by
    cases e; cases r
    exact ⟨[], rfl, rfl, fun p hp => by cases hp⟩
  | d :: es, _, ns, e, r => by
    obtain ⟨v, vs, rfl, h1, h2⟩ := r
    unfold prsI at e
    split at e
    · rename_i heq
      cases heq
    · rename_i a b ds heq
      cases heq
      obtain ⟨ns', e1, rfl⟩ := Option.map_eq_some_iff.mp e
      obtain ⟨ks, rfl, g2, g3⟩ := prs_rep e1 h2
      obtain ⟨c, us, rfl, l, rl⟩ := h1
      have ev := RepL.ints (ns := [a, b]) rl
      subst ev
      refine ⟨(c, [a, b]) :: ks, rfl, by simp [g2], fun p hp => ?_⟩
      rcases List.mem_cons.mp hp with rfl | hp
      · exact ⟨l.1, l.2⟩
      · exact g3 p hp
    · cases e
theorem pr_rep : ∀ {L : List (Addr × List Int)} {ms : List (Int × Int)}, L.map (·.2) = ms.map prV → (∀ p ∈ L, H p.1 = some (.tup (p.2.map V.int)) ∧ p.1 ∉ α) → RepL T H α (ms.map pr) (L.map fun p => V.ref p.1)
  | [], [], _, _ => rfl
  | [], _ :: _, e, _ => by simp at e
  | _ :: _, [], e, _ => by simp at e
  | p :: L, m :: ms, e, h => by
    simp only [List.map_cons, List.cons.injEq] at e
    obtain ⟨h1, h2⟩ := h p List.mem_cons_self
    refine ⟨_, _, rfl, ⟨p.1, _, rfl, ⟨h1, h2⟩, ?_⟩, pr_rep e.2 fun q hq => h q (List.mem_cons_of_mem _ hq)⟩
    rw [e.1]
    exact RepL.of_ints [m.1, m.2]
abbrev rSetTT (X : Cx) : List V → Hp → VK → Prop := fun xs H Q => ∃ (l : Addr) (ks : List (Addr × List Int)), xs = [V.ref l] ∧ SqT X.K H l (ks.map fun p => V.ref p.1) ∧ (∀ p ∈ ks, SqT X.K H p.1 (p.2.map V.int)) ∧ ks.length < 64 ∧
    ∀ a L, H a = none → (∀ p ∈ L, p ∈ ks) → (∀ p ∈ ks, p.2 ∈ L.map (·.2)) → Q (.ref a) (upd H a (SetTO X.prog X.w a L))
theorem sset_step (hK : X.K = T.K) {x r : D} {v : V} {Q : VK} (h : HR T H α S) (rx : Rep T H α x v) (e : ssetD S x = some r) (q : ∀ v H' α', Ext H α H' α' → HR T H' α' S → Rep T H' α' r v → Q v H') :
    rSetTT X [v] H fun y H2 => rSortedT X.K X.prog X.w [y] H2 Q := by
  unfold ssetD at e
  split at e
  · rename_i es e1
    split at e
    · rename_i ns e2
      split at e
      · rename_i hok
        cases e
        obtain ⟨a, vs, rfl, rl, sq⟩ := asSeq_ok h rx e1
        rw [← hK] at sq
        obtain ⟨ks, rfl, g2, g3⟩ := prs_rep e2 rl
        have hin : ∀ p ∈ ks, ∃ n ∈ ns, prV n = p.2 := fun p hp => by
          have : p.2 ∈ ns.map prV := by rw [← g2]; exact List.mem_map.mpr ⟨p, hp, rfl⟩
          obtain ⟨n, h1, h2⟩ := List.mem_map.mp this
          exact ⟨n, h1, h2⟩
        have hl : ks.length = ns.length := by
          have := congrArg List.length g2
          simpa using this
        refine ⟨a, ks, rfl, by simpa using sq, fun p hp => SqT.of (g3 p hp).1, by omega, fun b L hb hsub hall => ?_⟩
        have neb : ∀ p ∈ ks, p.1 ≠ b := fun p hp => ne_of_none (g3 p hp).1 hb
        have hbd : ∀ p ∈ L, p.2.length = 2 ∧ TS.Bd 64 p.2 := fun p hp => by
          obtain ⟨n, hn, e3⟩ := hin p (hsub p hp)
          obtain ⟨b1, b2⟩ := hok.2 n hn
          rw [← e3]
          refine ⟨rfl, fun m hm => ?_⟩
          simp only [prV, List.mem_cons, List.not_mem_nil, or_false] at hm
          rcases hm with rfl | rfl
          · exact b1
          · exact b2
        refine ⟨b, L, 2, 64, rfl, upd_same, fun p hp => SqT.of (by rw [upd_ne (neb p (hsub p hp))]; exact (g3 p (hsub p hp)).1), by decide, hbd, fun L' p hperm hnd hlen hpw hp => ?_⟩
        have h1 := h.laid hb (SetTO X.prog X.w b L)
        have e1 := Ext.laid h hb (SetTO X.prog X.w b L)
        have hL' : ∀ p ∈ L', p ∈ ks := fun p hp => hsub p (hperm.mem_iff.mp hp)
        let ms : List (Int × Int) := L'.map fun q => (q.2.getD 0 0, q.2.getD 1 0)
        have em : L'.map (·.2) = ms.map prV := by
          show _ = (L'.map _).map prV
          rw [List.map_map]
          refine List.map_congr_left fun p hp => ?_
          obtain ⟨n, hn, e3⟩ := hin p (hL' p hp)
          show p.2 = [p.2.getD 0 0, p.2.getD 1 0]
          rw [← e3]
          rfl
        have hms : ∀ m ∈ ms, m ∈ ns ∧ prV m ∈ L'.map (·.2) := fun m hm => by
          obtain ⟨p, hp, rfl⟩ := List.mem_map.mp hm
          obtain ⟨n, hn, e3⟩ := hin p (hL' p hp)
          refine ⟨?_, ?_⟩
          · show (p.2.getD 0 0, p.2.getD 1 0) ∈ ns
            rw [← e3]
            exact hn
          · refine List.mem_map.mpr ⟨p, hp, ?_⟩
            show p.2 = [p.2.getD 0 0, p.2.getD 1 0]
            rw [← e3]
            rfl
        have hinj : ∀ {m n : Int × Int}, prV m = prV n → m = n := fun {m n} e => by
          simp only [prV, List.cons.injEq, and_true] at e
          exact Prod.ext e.1 e.2
        have hfin : ms = sset ns := by
          refine sset_uniq ?_ (fun m => ⟨fun hm => (hms m hm).1, fun hm => ?_⟩) ?_
          · rw [em] at hnd
            exact nodup_of_map hnd
          · have h2 : prV m ∈ ks.map (·.2) := by rw [g2]; exact List.mem_map.mpr ⟨m, hm, rfl⟩
            obtain ⟨p, hp, e3⟩ := List.mem_map.mp h2
            have h3 : p.2 ∈ L.map (·.2) := hall p hp
            have h4 : p.2 ∈ L'.map (·.2) := (hperm.map (·.2)).mem_iff.mpr h3
            rw [em, e3] at h4
            obtain ⟨m', h5, h6⟩ := List.mem_map.mp h4
            rw [← hinj h6]
            exact h5
          · have hpw2 : (L'.map (·.2)).Pairwise fun q r => TS.code 64 q ≤ TS.code 64 r := List.pairwise_map.mpr hpw
            rw [em] at hpw2
            refine List.Pairwise.imp_of_mem (fun {m n} hm hn hle => ?_) (List.pairwise_map.mp hpw2)
            obtain ⟨b1, b2⟩ := hok.2 m (hms m hm).1
            obtain ⟨b3, b4⟩ := hok.2 n (hms n hn).1
            by_cases hmn : m = n
            · subst hmn
              simp [prLe]
            · have := pair_lt hle (fun z => hmn (hinj z)) b1 b2 b3 b4
              simp only [prLe, decide_eq_true_eq]
              omega
        rw [hfin] at em
        exact finL h1 (fun v H' α' e' h' r' => q v H' α' (e1.trans e') h' r') (pr_rep em fun p hp' => ⟨by rw [upd_ne (neb p (hL' p hp'))]; exact (g3 p (hL' p hp')).1, (g3 p (hL' p hp')).2⟩) hp
      · cases e
    · cases e
  · cases e
end
end NT
/-! own methods, own classes made, own exceptions raised -/
namespace NT
open PySem PySem.Spec PyProof.Rows L2
section
variable {X : Cx} {CX : CXT} {k : Nat} {f C : Addr} {fd : FuncData} {ps : List Str} {sp : Sp} {E : L2.St → XK} {x m : Str} {p pos apos : Pos} {e o : Expr} {es : List Expr} {ta : TE} {t : TA}
/-- the tree of a method call of few arguments -/
theorem meth_tree {env : PySem.Env} {o : Expr} {m : Str} {apos pos : Pos} {args : List Expr} (hbase : attributeBase o m env (eval o env) = eval o env)
    (hfew : ((backTo pos (starEach args env)).all (fun x => !x.1) && (backToKw pos (keywordEach [] env)).all (fun x => x.1.isSome)
      && decide (args.length + ([] : List Keyword).length + (if ([] : List Keyword).isEmpty then 0 else 1) < 30)) = true) (hline : (apos.endLine == pos.line) = true) :
    eval (.Call (.Attribute o m apos) args [] pos) env = (do
      let ov ← eval o env
      standAt apos.atName
      let (f, first) ← holding [ov] (getMethod ov m (do return (← importBound o env).getD true))
      callWith pos f first (backTo pos (starEach args env)) (backToKw pos (keywordEach [] env))) := by
  have hform : methodCallForm (args.length + ([] : List Keyword).length) (backTo pos (starEach args env)) (backToKw pos (keywordEach [] env)) = true := hfew
  have hpos : methodCallPos true o env apos pos = pure pos := by unfold methodCallPos; simp [hline]
  rw [arm_eval_Call, hbase]
  unfold methodCall
  rw [hform, hpos]
  rfl
def tMethS (C : Addr) (m : Str) (sp : Sp) (E : L2.St → XK) (ta : TE) (t : TA) : TE := fun σ H Q => ta σ H fun x H1 => ∃ a dx fs, x = .ref a ∧ H1 a = some (.ins C dx fs) ∧ fs.lookup m = none ∧
  t σ H1 fun vs H2 => sp (x :: vs) H2 Q (E σ)
theorem pe_methS {pl : Sem Bool} (he : PE X o ta) (c : Cls X.K C) (hm : Meth X.K C m f) (F : FnOk X.prog X.w X.K X.mg X.base CX k f fd ps sp) (hr : Room k X.A) (hb : Binds X.K fd ps []) (hx : ∀ σ, PassesAt CX X σ (E σ)) (ha : PA X (e :: es) t)
    (hst : starEach (e :: es) X.env = (false, eval e X.env) :: starEach es X.env) (hpl : (backTo pos (starEach es X.env)).any (·.1) = false)
    (ht : eval (.Call (.Attribute o m apos) (e :: es) [] pos) X.env = (do
      let ov ← eval o X.env
      standAt apos.atName
      let (f, first) ← holding [ov] (getMethod ov m pl)
      callWith pos f first (backTo pos (starEach (e :: es) X.env)) (backToKw pos (keywordEach [] X.env)))) :
    PE X (.Call (.Attribute o m apos) (e :: es) [] pos) (tMethS C m sp E ta t) := by
  refine ⟨fun pins s σ H Q I h => ?_⟩
  refine PySem.W.methodCall_KW (pl := pl) (thn (he.run pins s σ H _ I h) fun u s1 ⟨x, H1, I1, rx, a, dx, fs, ex, ea, l, q⟩ => ?_) ht
  subst ex
  obtain rfl : u = Value.ref a := rx
  refine getmeth_ok I1 ea c hm l ?_
  refine PySem.W.callWith_K (first := [.ref a]) (h₀ := X.base) I.ok.mod.kin hm.kp (thn (ha.run pos pins s1 σ H1 _ I1 q) fun us s2 ⟨vs, H2, I2, r, q2⟩ => ⟨I2.kIn, ?_⟩) hst hpl
  exact run_fnS (us := .ref a :: us) (vs := .ref a :: vs) F hr hb (hx σ) I2 (.cons rfl r) q2
theorem pe_methS0 {pl : Sem Bool} (he : PE X o ta) (c : Cls X.K C) (hm : Meth X.K C m f) (F : FnOk X.prog X.w X.K X.mg X.base CX k f fd ps sp) (hr : Room k X.A) (hb : Binds X.K fd ps []) (hx : ∀ σ, PassesAt CX X σ (E σ))
    (ht : eval (.Call (.Attribute o m apos) [] [] pos) X.env = (do
      let ov ← eval o X.env
      standAt apos.atName
      let (f, first) ← holding [ov] (getMethod ov m pl)
      callWith pos f first (backTo pos (starEach [] X.env)) (backToKw pos (keywordEach [] X.env)))) :
    PE X (.Call (.Attribute o m apos) [] [] pos) (tMethS C m sp E ta tNil) := by
  refine ⟨fun pins s σ H Q I h => ?_⟩
  refine PySem.W.methodCall_KW (pl := pl) (thn (he.run pins s σ H _ I h) fun u s1 ⟨x, H1, I1, rx, a, dx, fs, ex, ea, l, q⟩ => ?_) ht
  subst ex
  obtain rfl : u = Value.ref a := rx
  refine getmeth_ok I1 ea c hm l ?_
  exact PySem.W.callWith_K0 (first := [.ref a]) I1.kIn hm.kp (run_fnS (us := [.ref a]) (vs := [.ref a]) F hr hb (hx σ) I1 (.cons rfl .nil) q)
theorem run_makeS {E : XK} {pins : List (Addr × Obj)} {σ : L2.St} {H : Hp} {s : Shared} {Q : VK} {us : List Value} {vs : List V} (M : Mk X.K C f) (F : FnOk X.prog X.w X.K X.mg X.base CX k f fd ps sp) (hr : Room (k + 1) X.A) (hb : Binds X.K fd ps [])
    (hx : PassesAt CX X σ E) (I : L2.Inv X pins σ H s) (r : Vals vs us)
    (h : ∀ x dx, H x = none → H dx = none → dx ≠ x → sp (.ref x :: vs) (upd (upd H dx (.own x)) x (.ins C dx [])) (fun v H2 => v = .non ∧ Q (.ref x) H2) E) :
    wpAny (model X.prog X.w) X.A (call (.ref C) us) (EP X pins σ Q) X.xe s := by
  have hq := h (s.heap.objs.size + 1) s.heap.objs.size (I.hok.fresh (Nat.le_succ _)) (I.hok.fresh (Nat.le_refl _)) (Nat.ne_of_lt (Nat.lt_succ_self _))
  have I2 := Inv.made (C := C) I
  have r2 : Vals (V.ref (s.heap.objs.size + 1) :: vs) (Value.ref (s.heap.objs.size + 1) :: us) := .cons rfl r
  have hl : (Value.ref (s.heap.objs.size + 1) :: us).length = ps.length := by
    rw [← F.len _ _ _ _ hq]
    exact r2.length.symm
  have b := hb _ (Value.ref (s.heap.objs.size + 1) :: us) I2.kIn (by rw [List.append_nil]; exact hl)
  rw [List.append_nil] at b
  refine wpAny_call (make_map (f := f) I.kIn M.makes M.init (beq_iff_eq.mp M.fn) (codeAny_mono (F.run _ X.stack _ _ ⟨Value.ref (s.heap.objs.size + 1) :: us, []⟩ (Value.ref (s.heap.objs.size + 1) :: us) _ _ E (hr.make C us [])
    (I2.env0.make C us []) b r2 hq) fun r s' hq' => ?_))
  cases r with
  | error e => exact hx pins _ _ e s' I2 hq'
  | ok fl =>
    cases fl with
    | ret u =>
      obtain ⟨v, H', I3, rv, ev, q3⟩ := I2.after hq'
      subst ev
      exact ⟨rv, ⟨V.ref (s.heap.objs.size + 1), H', I3, rfl, q3⟩⟩
    | next => exact False.elim hq'
    | brk => exact False.elim hq'
    | cont => exact False.elim hq'
def tMakeS (C : Addr) (sp : Sp) (E : L2.St → XK) (t : TA) : TE := fun σ H Q => t σ H fun vs H1 => ∀ x dx, H1 x = none → H1 dx = none → dx ≠ x →
  sp (.ref x :: vs) (upd (upd H1 dx (.own x)) x (.ins C dx [])) (fun v H2 => v = .non ∧ Q (.ref x) H2) (E σ)
theorem pe_makeS (M : Mk X.K C f) (F : FnOk X.prog X.w X.K X.mg X.base CX k f fd ps sp) (hr : Room (k + 1) X.A) (hg : Gl X x) (hm : X.mg x = some (.ref C)) (hb : Binds X.K fd ps []) (hx : ∀ σ, PassesAt CX X σ (E σ))
    (ha : PA X (e :: es) t) (hdb : (x == ("__debug__" : Str)) = false) (he : starEach (e :: es) X.env = (false, eval e X.env) :: starEach es X.env) (hpl : (backTo pos (starEach es X.env)).any (·.1) = false) :
    PE X (.Call (.Name x p) (e :: es) [] pos) (tMakeS C sp E t) := by
  refine ⟨fun pins s σ H Q I h => ?_⟩
  refine wpAny_Call_Name_kw (ld_glob I hg hm ?_ hdb)
  refine PySem.W.callWith_K (h₀ := X.base) I.ok.mod.kin M.kp (thn (ha.run pos pins s σ H _ I h) fun us s1 ⟨vs, H1, I1, r, q⟩ => ⟨I1.kIn, ?_⟩) he hpl
  exact run_makeS M F hr hb (hx σ) I1 r q
/-- X() -/
theorem pmk_own0 {bmB : List Value} {B newId initId : String} (F : ExcBaseFacts B newId initId bmB) (q : PySem.W.excIn X.K C bmB newId = true) (gC : X.mg x = some (.ref C)) (kC : PySem.W.keepIn X.K (.ref C) = true) (r : Raises X (.ref C)) (hg : Gl X x)
    (hdb : (x == ("__debug__" : Str)) = false) : PMk X (.Call (.Name x p) [] [] pos) (fun _ H Q => Q (.ref C) none H) := by
  intro pins s σ H Q I h
  refine wpAny_Call_Name_kw (ld_glob I hg gC ?_ hdb)
  refine PySem.W.callWith_K0 I.kIn kC ?_
  show wpAny _ _ (call (.ref C) []) _ _ _
  obtain ⟨bm, N, nm, qn, bs, hdct, sn, sub, ab, col, dd, k0, k1, k2, k3, k5, mN, hC, hN, hni, T⟩ := exc_obj I.kIn q
  refine wpAny_call_exc_subT F T hC hN hni (fun h' e hm => ?_) (by show 0 ≤ sizeLine; exact Nat.zero_le _)
  exact mk_of I hm r h (I.hok.gone hm.new)
end
end NT
/-! the small language and its interpreter -/
namespace NT
open PySem L2

inductive Bop where
  | add | sub | mul | mod | fdiv
inductive Cop where
  | eq | ne | lt | le | gt | ge | is | isnot | mem | nmem
inductive Bi where
  | len | abs | max | min | all | any | sum | sorted | isi
inductive Bt where
  | tuple | list | int | dict | set | str | ptuple
inductive Mth where
  | append | extend | popL | dget | dpop | insert | remove | setdef
inductive Pat where
  | nm (i : Nat)
  | tp (is : List Nat)
  | tl (is : List Nat)
  | tn (ps : List (Nat ⊕ List Nat))
/-- a module's constant -/
inductive Cst where
  | int (i : Int) | str (x : Str) | tup (is : List Int)
  deriving DecidableEq
def Cst.d : Cst → D
  | .int i => .int i
  | .str x => .str x
  | .tup is => .wt (is.map D.int)
mutual
inductive E where
  | var (i : Nat)
  | lit (d : D)
  | ty (n : String)
  | fn (i : Nat)
  | bin (o : Bop) (a b : E)
  | neg (a : E)
  | cmp (o : Cop) (a b : E)
  | cmp2 (o p : Cop) (a b c : E)
  | and (a b : E)
  | or (a b : E)
  | one (a : E)
  | not (a : E)
  | ite (c a b : E)
  | call (f : Nat) (es : Es)
  | bi (b : Bi) (es : Es)
  | bt (b : Bt) (es : Es)
  | mth (m : Mth) (o : E) (es : Es)
  | idx (a b : E)
  | slc (a lo hi : E)
  | rev (a : E)
  | glo (x : Str) (k : Cst)
  | callL (i : Nat) (fs : List Nat) (es : Es)
  | no
  | tup (es : Es)
  | lst (es : Es)
  | lstR (es : Es)
  | dK
  | dT
  | comp (p : Pat) (it : It) (c elt : E) (own : List Nat)
  | sset (a : E)
  | dKs (es : Es)
  | lk (e b : E)
  | meth (c : Nat) (m : Str) (f : Nat) (o : E) (es : Es)
  | make (c f : Nat) (es : Es)
  | fld (o : E) (c : Nat) (n : Str)
inductive Es where
  | nil
  | cons (e : E) (es : Es)
inductive It where
  | seq (e : E)
  | range1 (a : E)
  | range2 (a b : E)
  | zip (a b : E)
  | keys (e : E)
  | vals (e : E)
end
/-- what stands in a short except suite -/
inductive Su where
  | set (i : Nat) (d : D)
  | inc (i : Nat) (k : Int)
  | ret (d : D)
mutual
inductive St where
  | asg (p : Pat) (e : E)
  | setI (o k v : E)
  | exp (e : E)
  | ret (e : E)
  | retN
  | ite (c : E) (a b : Sts)
  | for_ (p : Pat) (it : It) (b : Sts)
  | while_ (c : E) (b : Sts)
  | brk
  | cont
  | pass
  | setF (o : E) (c : Nat) (n : Str) (v : E)
  | raise_ (c : Nat)
  | try_ (es : List Nat) (b : Sts) (hs : List (Nat × Su))
  | lk (e : E) (s : St)
inductive Sts where
  | nil
  | cons (s : St) (r : Sts)
end

/-! results -/
def R.bind {A B : Type} (r : R A) (k : A → Sto → R B) : R B := match r with
  | .ok a S => k a S
  | .exc c S => .exc c S
  | .stuck => .stuck
def liftO (o : Option (D × Sto)) : R D := match o with
  | some (d, S) => .ok d S
  | none => .stuck
inductive Fl where
  | nx (ρ : Env) | rt (d : D) | bk (ρ : Env) | ct (ρ : Env)
inductive RS where
  | ok (f : Fl) (S : Sto)
  | exc (c : Nat) (ρ : Env) (S : Sto)
  | stuck
/-- a statement that goes on with an expression's value -/
def R.thn {A : Type} (r : R A) (ρ : Env) (k : A → Sto → RS) : RS := match r with
  | .ok a S => k a S
  | .exc c S => .exc c ρ S
  | .stuck => .stuck
def RS.seq (r : RS) (k : Env → Sto → RS) : RS := match r with
  | .ok (.nx ρ) S => k ρ S
  | r => r

/-! operations by name -/
def Bop.f : Bop → OpF
  | .add => addD | .sub => subD | .mul => mulD | .mod => modD | .fdiv => fdivD
def Cop.f : Cop → OpF
  | .eq => eqD | .ne => neD
  | .lt => ordD fun p q => PySem.W.dataLt p q
  | .le => ordD fun p q => !PySem.W.dataLt q p
  | .gt => ordD fun p q => PySem.W.dataLt q p
  | .ge => ordD fun p q => !PySem.W.dataLt p q
  | .is => isD | .isnot => isnotD
  | .mem => inG fun b => b
  | .nmem => inG fun b => !b
def Bi.f : Bi → OpF
  | .len => lenD | .abs => absD | .max => maxD | .min => minD | .all => allD | .any => anyD | .sum => sumD | .sorted => sortedD | .isi => isiD
def noF : OpF := fun _ _ => none
def Bt.f : Bt → OpF
  | .tuple => tupleD | .list => listD | .int => intD | .dict => dictD | .set => noF | .str => noF | .ptuple => ptupleD
def Mth.f : Mth → OpF
  | .append => appendD | .extend => extendD | .popL => popLD | .dget => dgetD | .dpop => dpopD | .insert => insertD | .remove => removeD | .setdef => setdefD
/-- whether a receiver is of the method's type -/
def Mth.ok (m : Mth) (S : Sto) (d : D) : Bool := match m with
  | .append | .extend | .popL | .insert | .remove => (match d with | .ref i => (cellL S i).isSome | _ => false)
  | .dget | .dpop | .setdef => (match d with | .ref i => (match (S[i]?).map unl with | some (.dK _) => true | some (.dT _) => true | _ => false) | _ => false)

/-! displays, instances, locks -/
def pairUp : List D → Option (List (Key × D))
  | [] => some []
  | k :: v :: r => match keyOf k, pairUp r with
    | some kk, some kvs => some ((kk, v) :: kvs)
    | _, _ => none
  | _ => none
def putFD (f : Str) (v : D) : List (Str × D) → List (Str × D)
  | [] => [(f, v)]
  | (g, x) :: r => if g = f then (g, v) :: r else (g, x) :: putFD f v r
def insOf (S : Sto) (c : Nat) : D → Option (Nat × List (Str × D))
  | .ref i => match S[i]? with
    | some (.ins c' fs) => if c' = c then some (i, fs) else none
    | _ => none
  | _ => none
def isLk (S : Sto) (i : Nat) : Bool := match S[i]? with
  | some (.frz _) => true
  | _ => false
def lkd (S : Sto) (i : Nat) : Option Sto := match S[i]? with
  | some (.dK kvs) => some (S.set i (.frz (.dK kvs)))
  | some (.dT kvs) => some (S.set i (.frz (.dT kvs)))
  | _ => none
def unlkd (S : Sto) (i : Nat) : Option Sto := match S[i]? with
  | some (.frz (.dK kvs)) => some (S.set i (.dK kvs))
  | some (.frz (.dT kvs)) => some (S.set i (.dT kvs))
  | _ => none
def lkR (e : R D) (S : Sto) (m : Sto → R D) : R D := match e with
  | .ok (.ref i) _ => if isLk S i = true then m S else match lkd S i with
    | some S1 => (match m S1 with
      | .ok d S2 => (match unlkd S2 i with
        | some S3 => .ok d S3
        | none => .stuck)
      | _ => .stuck)
    | none => .stuck
  | _ => .stuck
def lkRS (e : R D) (S : Sto) (m : Sto → RS) : RS := match e with
  | .ok (.ref i) _ => if isLk S i = true then m S else match lkd S i with
    | some S1 => (match m S1 with
      | .ok f S2 => (match unlkd S2 i with
        | some S3 => .ok f S3
        | none => .stuck)
      | _ => .stuck)
    | none => .stuck
  | _ => .stuck
def Su.run : Su → List (Option D) → Sto → RS
  | .set i d, ρ, S => .ok (.nx (ρ.set i (some d))) S
  | .inc i k, ρ, S => match ρ[i]? with
    | some (some (.int n)) => .ok (.nx (ρ.set i (some (.int (n + k))))) S
    | _ => .stuck
  | .ret d, _, S => .ok (.rt d) S
def tryRS (es : List Nat) (hs : List (Nat × Su)) : RS → RS
  | .exc c ρ S => if c ∈ es then (match hs.find? (fun h => decide (h.1 = c)) with
    | some h => h.2.run ρ S
    | none => .exc c ρ S) else .stuck
  | r => r
def madeR (i : Nat) : R D → R D
  | .ok .non S => .ok (.ref i) S
  | .exc k S => .exc k S
  | _ => .stuck
/-- the items of a locked dict -/
def keysF (S : Sto) : D → Option (List D)
  | .ref i => match S[i]? with
    | some (.frz (.dK kvs)) => some (kvs.map fun kv => keyD kv.1)
    | some (.frz (.dT kvs)) => some (kvs.map fun kv => .tup (kv.1.map keyD))
    | _ => none
  | _ => none
def valsF (S : Sto) : D → Option (List D)
  | .ref i => match S[i]? with
    | some (.frz (.dK kvs)) => some (kvs.map fun kv => kv.2)
    | _ => none
  | _ => none

/-! names bound -/
def setAll : List Nat → List D → Env → Option Env
  | [], [], ρ => some ρ
  | i :: is, d :: ds, ρ => setAll is ds (ρ.set i (some d))
  | _, _, _ => none
/-- names, and tuples of names -/
def set2 : List (Nat ⊕ List Nat) → List D → Env → Option Env
  | [], [], ρ => some ρ
  | .inl i :: ps, d :: ds, ρ => set2 ps ds (ρ.set i (some d))
  | .inr is :: ps, .tup es :: ds, ρ => (setAll is es ρ).bind (set2 ps ds)
  | .inr is :: ps, .wt es :: ds, ρ => (setAll is es ρ).bind (set2 ps ds)
  | _, _, _ => none
def Pat.bnd (p : Pat) (d : D) (ρ : Env) : Option Env := match p with
  | .nm i => some (ρ.set i (some d))
  | .tp is => match d with
    | .tup ds => setAll is ds ρ
    | .wt ds => setAll is ds ρ
    | _ => none
  | .tl is => match d with
    | .lst ds => setAll is ds ρ
    | .wl ds => setAll is ds ρ
    | _ => none
  | .tn ps => match d with
    | .tup ds => set2 ps ds ρ
    | .wt ds => set2 ps ds ρ
    | _ => none
def wipeD (ρ : Env) : List Nat → Env
  | [] => ρ
  | v :: vs => (wipeD ρ vs).set v none

/-! loops -/
abbrev Gs := List (Nat × List D)
def gok (gs : Gs) (S : Sto) : Prop := ∀ p ∈ gs, cellL S p.1 = some p.2
open Classical in
noncomputable def forD (gs : Gs) (body : D → Env → Sto → RS) : List D → Env → Sto → RS
  | [], ρ, S => if gok gs S then .ok (.nx ρ) S else .stuck
  | d :: ds, ρ, S => if gok gs S then (match body d ρ S with
    | .ok (.nx ρ') S' => forD gs body ds ρ' S'
    | .ok (.ct ρ') S' => forD gs body ds ρ' S'
    | .ok (.bk ρ') S' => .ok (.nx ρ') S'
    | r => r) else .stuck
open Classical in
noncomputable def lcD (gs : Gs) (turn : D → Sto → R (Option D)) : List D → List D → Sto → R (List D)
  | [], acc, S => if gok gs S then .ok acc S else .stuck
  | d :: ds, acc, S => if gok gs S then (match turn d S with
    | .ok o S' => lcD gs turn ds (match o with | some y => acc ++ [y] | none => acc) S'
    | _ => .stuck) else .stuck
def whileD (c : Env → Sto → R Bool) (body : Env → Sto → RS) : Nat → Env → Sto → RS
  | 0, _, _ => .stuck
  | n + 1, ρ, S => (c ρ S).thn ρ fun b S1 => if b = true then (match body ρ S1 with
    | .ok (.nx ρ') S' => whileD c body n ρ' S'
    | .ok (.ct ρ') S' => whileD c body n ρ' S'
    | .ok (.bk ρ') S' => .ok (.nx ρ') S'
    | r => r) else .ok (.nx ρ) S1

def truB (S : Sto) (d : D) : Option Bool := match d with
  | .non => some false
  | .bl b => some b
  | .int i => some (i != 0)
  | .str x => if x.length ≤ sizeLine then some ((x.length : Int) != 0) else none
  | d => match asSeq S d with
    | some (_, ds) => some (!ds.isEmpty)
    | none => match d with
      | .ref i => match S[i]? with
        | some (.dK kvs) => some (!kvs.isEmpty)
        | _ => none
      | _ => none
def rngD (lo : Int) (n : Nat) : List D := (List.range n).map fun (i : Nat) => D.int (lo + i)
def gOf (d : D) (es : List D) : Gs := match d with
  | .ref i => [(i, es)]
  | _ => []

/-- a value, and its truth -/
noncomputable def plainE (m : Env → Sto → R D) : (Env → Sto → R D) × (Env → Sto → R Bool) := (m, fun ρ S => (m ρ S).bind fun x S1 => match truB S1 x with
  | some b => .ok b S1
  | none => .stuck)
noncomputable def boolE (m : Env → Sto → R D) : (Env → Sto → R D) × (Env → Sto → R Bool) := (m, fun ρ S => (m ρ S).bind fun x S1 => match x with
  | .bl b => .ok b S1
  | _ => .stuck)
def E.isNo : E → Bool
  | .no => true
  | _ => false
mutual
noncomputable def ev2 (cf : Nat → List D → Sto → R D) : E → (Env → Sto → R D) × (Env → Sto → R Bool)
  | .var i => plainE fun ρ S => match ρ[i]? with
    | some (some d) => .ok d S
    | _ => .stuck
  | .lit d => plainE fun _ S => .ok d S
  | .ty n => plainE fun _ S => .ok (.ty n) S
  | .fn i => plainE fun _ S => .ok (.fn i) S
  | .bin o a b => plainE fun ρ S => ((ev2 cf a).1 ρ S).bind fun x S1 => ((ev2 cf b).1 ρ S1).bind fun y S2 => liftO (o.f S2 [x, y])
  | .neg a => plainE fun ρ S => ((ev2 cf a).1 ρ S).bind fun x S1 => match x with
    | .int i => .ok (.int (-i)) S1
    | _ => .stuck
  | .cmp o a b => boolE fun ρ S => ((ev2 cf a).1 ρ S).bind fun x S1 => ((ev2 cf b).1 ρ S1).bind fun y S2 => liftO (o.f S2 [x, y])
  | .cmp2 o p a b c => boolE fun ρ S => ((ev2 cf a).1 ρ S).bind fun x S1 => ((ev2 cf b).1 ρ S1).bind fun y S2 => (liftO (o.f S2 [x, y])).bind fun z S3 => match z with
    | .bl true => ((ev2 cf c).1 ρ S3).bind fun w S4 => liftO (p.f S4 [y, w])
    | .bl false => .ok (.bl false) S3
    | _ => .stuck
  | .and a b => (fun ρ S => ((ev2 cf a).1 ρ S).bind fun x S1 => match x with
      | .bl true => (ev2 cf b).1 ρ S1
      | .bl false => .ok (.bl false) S1
      | _ => .stuck,
    fun ρ S => ((ev2 cf a).2 ρ S).bind fun t S1 => if t = true then (ev2 cf b).2 ρ S1 else .ok false S1)
  | .or a b => (fun ρ S => ((ev2 cf a).1 ρ S).bind fun x S1 => match x with
      | .bl true => .ok (.bl true) S1
      | .bl false => (ev2 cf b).1 ρ S1
      | _ => .stuck,
    fun ρ S => ((ev2 cf a).2 ρ S).bind fun t S1 => if t = true then .ok true S1 else (ev2 cf b).2 ρ S1)
  | .one a => ((ev2 cf a).1, (ev2 cf a).2)
  | .not a => (fun ρ S => ((ev2 cf a).1 ρ S).bind fun x S1 => match truB S1 x with
      | some b => .ok (.bl (!b)) S1
      | none => .stuck,
    fun ρ S => ((ev2 cf a).2 ρ S).bind fun t S1 => .ok (!t) S1)
  | .ite c a b => (fun ρ S => ((ev2 cf c).2 ρ S).bind fun t S1 => if t = true then (ev2 cf a).1 ρ S1 else (ev2 cf b).1 ρ S1, fun _ _ => .stuck)
  | .call f es => plainE fun ρ S => (evs cf es ρ S).bind fun ds S1 => cf f ds S1
  | .bi b es => plainE fun ρ S => (evs cf es ρ S).bind fun ds S1 => liftO (b.f S1 ds)
  | .bt b es => plainE fun ρ S => (evs cf es ρ S).bind fun ds S1 => liftO (b.f S1 ds)
  | .mth m o es => plainE fun ρ S => ((ev2 cf o).1 ρ S).bind fun x S1 => if m.ok S1 x = true then (evs cf es ρ S1).bind fun ds S2 => liftO (m.f S2 (x :: ds)) else .stuck
  | .idx a b => plainE fun ρ S => ((ev2 cf a).1 ρ S).bind fun x S1 => ((ev2 cf b).1 ρ S1).bind fun y S2 => liftO (idxD S2 [x, y])
  | .slc a lo hi => plainE fun ρ S => ((ev2 cf a).1 ρ S).bind fun x S1 =>
      (if lo.isNo = true then .ok none S1 else ((ev2 cf lo).1 ρ S1).bind fun y S2 => match y with | .int i => .ok (some i) S2 | _ => .stuck : R (Option Int)).bind fun l S2 =>
      (if hi.isNo = true then .ok none S2 else ((ev2 cf hi).1 ρ S2).bind fun y S3 => match y with | .int i => .ok (some i) S3 | _ => .stuck : R (Option Int)).bind fun h S3 => match slcF S3 x l h with
    | some r => .ok r S3
    | none => .stuck
  | .rev a => plainE fun ρ S => ((ev2 cf a).1 ρ S).bind fun x S1 => match turnD S1 x with
    | some r => .ok r S1
    | none => .stuck
  | .glo x k => plainE fun _ S => .ok k.d S
  | .callL i fs es => plainE fun ρ S => match ρ[i]? with
    | some (some (.fn f)) => if f ∈ fs then (evs cf es ρ S).bind fun ds S1 => cf f ds S1 else .stuck
    | _ => .stuck
  | .no => plainE fun _ _ => .stuck
  | .tup es => plainE fun ρ S => (evs cf es ρ S).bind fun ds S1 => if ds.length ≤ sizeLine then .ok (.tup ds) S1 else .stuck
  | .lst es => plainE fun ρ S => (evs cf es ρ S).bind fun ds S1 => if ds.length ≤ sizeLine then .ok (.lst ds) S1 else .stuck
  | .lstR es => plainE fun ρ S => (evs cf es ρ S).bind fun ds S1 => if ds.length ≤ sizeLine then .ok (.ref S1.length) (S1 ++ [.lst ds]) else .stuck
  | .dK => plainE fun _ S => .ok (.ref S.length) (S ++ [.dK []])
  | .dT => plainE fun _ S => .ok (.ref S.length) (S ++ [.dT []])
  | .comp p it c elt own => plainE fun ρ S => (evIt cf it ρ S).bind fun ig S1 => if ig.1.length ≤ sizeLine then
      (lcD ig.2 (fun d S2 => match p.bnd d (wipeD ρ own) with
        | none => .stuck
        | some ρ' => (if c.isNo = true then .ok true S2 else (ev2 cf c).2 ρ' S2 : R Bool).bind fun t S3 => if t = true then ((ev2 cf elt).1 ρ' S3).bind fun y S4 => .ok (some y) S4 else .ok none S3) ig.1 [] S1).bind fun ds S2 => .ok (.lst ds) S2
    else .stuck
  | .sset a => plainE fun ρ S => ((ev2 cf a).1 ρ S).bind fun x S1 => match ssetD S1 x with
    | some r => .ok r S1
    | none => .stuck
  | .dKs es => plainE fun ρ S => (evs cf es ρ (S ++ [.dK []])).bind fun ds S1 => match cellK S1 S.length, pairUp ds with
    | some [], some kvs => if kvs.length ≤ 15 then .ok (.ref S.length) (S1.set S.length (.dK (mergeD [] kvs))) else .stuck
    | _, _ => .stuck
  | .lk e b => plainE fun ρ S => lkR ((ev2 cf e).1 ρ S) S ((ev2 cf b).1 ρ)
  | .meth c m f o es => plainE fun ρ S => ((ev2 cf o).1 ρ S).bind fun x S1 => match insOf S1 c x with
    | some (i, fs) => if (look fs m).isNone = true then (evs cf es ρ S1).bind fun ds S2 => cf f (.ref i :: ds) S2 else .stuck
    | none => .stuck
  | .make c f es => plainE fun ρ S => (evs cf es ρ S).bind fun ds S1 => madeR S1.length (cf f (.ref S1.length :: ds) (S1 ++ [.ins c []]))
  | .fld o c n => plainE fun ρ S => ((ev2 cf o).1 ρ S).bind fun x S1 => match insOf S1 c x with
    | some (_, fs) => (match look fs n with
      | some d => .ok d S1
      | none => .stuck)
    | none => .stuck
noncomputable def evs (cf : Nat → List D → Sto → R D) : Es → Env → Sto → R (List D)
  | .nil => fun _ S => .ok [] S
  | .cons e es => fun ρ S => ((ev2 cf e).1 ρ S).bind fun d S1 => (evs cf es ρ S1).bind fun ds S2 => .ok (d :: ds) S2
noncomputable def evIt (cf : Nat → List D → Sto → R D) : It → Env → Sto → R (List D × Gs)
  | .seq e => fun ρ S => ((ev2 cf e).1 ρ S).bind fun x S1 => match asSeq S1 x with
    | some (_, es) => .ok (es, gOf x es) S1
    | none => .stuck
  | .range1 a => fun ρ S => ((ev2 cf a).1 ρ S).bind fun x S1 => match x with
    | .int j => if -(2 ^ 62) ≤ j ∧ j < 2 ^ 62 then .ok (rngD 0 j.toNat, []) S1 else .stuck
    | _ => .stuck
  | .range2 a b => fun ρ S => ((ev2 cf a).1 ρ S).bind fun x S1 => ((ev2 cf b).1 ρ S1).bind fun y S2 => match x, y with
    | .int i, .int j => if -(2 ^ 62) ≤ i ∧ i < 2 ^ 62 ∧ -(2 ^ 62) ≤ j ∧ j < 2 ^ 62 then .ok (rngD i (j - i).toNat, []) S2 else .stuck
    | _, _ => .stuck
  | .zip a b => fun ρ S => ((ev2 cf a).1 ρ S).bind fun x S1 => ((ev2 cf b).1 ρ S1).bind fun y S2 => match asSeq S2 x, asSeq S2 y with
    | some (k, xs), some (l, ys) => if k = l then .ok ((xs.zip ys).map fun p => .tup [p.1, p.2], gOf x xs ++ gOf y ys) S2 else .stuck
    | _, _ => .stuck
  | .keys e => fun ρ S => ((ev2 cf e).1 ρ S).bind fun x S1 => match keysF S1 x with
    | some es => .ok (es, []) S1
    | none => .stuck
  | .vals e => fun ρ S => ((ev2 cf e).1 ρ S).bind fun x S1 => match valsF S1 x with
    | some es => .ok (es, []) S1
    | none => .stuck
end
noncomputable def ev (cf : Nat → List D → Sto → R D) (e : E) : Env → Sto → R D := (ev2 cf e).1
noncomputable def evT (cf : Nat → List D → Sto → R D) (e : E) : Env → Sto → R Bool := (ev2 cf e).2

mutual
noncomputable def ex (cf : Nat → List D → Sto → R D) (wf : Nat) : St → Env → Sto → RS
  | .asg p e => fun ρ S => (ev cf e ρ S).thn ρ fun d S1 => match p.bnd d ρ with
    | some ρ' => .ok (.nx ρ') S1
    | none => .stuck
  | .setI o k v => fun ρ S => (ev cf v ρ S).thn ρ fun x S1 => (ev cf o ρ S1).thn ρ fun y S2 => (ev cf k ρ S2).thn ρ fun z S3 => match setS S3 y z x with
    | some S4 => .ok (.nx ρ) S4
    | none => .stuck
  | .exp e => fun ρ S => (ev cf e ρ S).thn ρ fun _ S1 => .ok (.nx ρ) S1
  | .ret e => fun ρ S => (ev cf e ρ S).thn ρ fun d S1 => .ok (.rt d) S1
  | .retN => fun _ S => .ok (.rt .non) S
  | .ite c a b => fun ρ S => (evT cf c ρ S).thn ρ fun t S1 => if t = true then exs cf wf a ρ S1 else exs cf wf b ρ S1
  | .for_ p it b => fun ρ S => (evIt cf it ρ S).thn ρ fun ig S1 => forD ig.2 (fun d ρ1 S2 => match p.bnd d ρ1 with
    | some ρ2 => exs cf wf b ρ2 S2
    | none => .stuck) ig.1 ρ S1
  | .while_ c b => fun ρ S => whileD (evT cf c) (exs cf wf b) wf ρ S
  | .brk => fun ρ S => .ok (.bk ρ) S
  | .cont => fun ρ S => .ok (.ct ρ) S
  | .pass => fun ρ S => .ok (.nx ρ) S
  | .setF o c n v => fun ρ S => (ev cf v ρ S).thn ρ fun d S1 => (ev cf o ρ S1).thn ρ fun x S2 => match insOf S2 c x with
    | some (i, fs) => if fs.length < 1000 then .ok (.nx ρ) (S2.set i (.ins c (putFD n d fs))) else .stuck
    | none => .stuck
  | .raise_ c => fun ρ S => .exc c ρ S
  | .try_ es b hs => fun ρ S => tryRS es hs (exs cf wf b ρ S)
  | .lk e s => fun ρ S => lkRS (ev cf e ρ S) S (ex cf wf s ρ)
noncomputable def exs (cf : Nat → List D → Sto → R D) (wf : Nat) : Sts → Env → Sto → RS
  | .nil => fun ρ S => .ok (.nx ρ) S
  | .cons s r => fun ρ S => (ex cf wf s ρ S).seq fun ρ' S' => exs cf wf r ρ' S'
end
end NT
/-! which small terms a text is, and the judgements -/
namespace NT
open PySem L2

/-- a class of the text: an exception; one whose instances are made -/
inductive ClsI where
  | exc (x : Str)
  | ins (x : Str) (fl : List Str) (ms : List (Str × Nat)) (ini : Nat)
def ClsI.nm : ClsI → Str
  | .exc x => x
  | .ins x _ _ _ => x
structure Ctx where
  N : List Str
  sc : Scope
  fnl : Str → Bool
  fns : List (Option Str)
  gls : List (Str × Cst)
  cls : List ClsI
def Ctx.isExc (c : Ctx) (i : Nat) (x : Str) : Bool := match c.cls[i]? with
  | some (.exc y) => decide (y = x)
  | _ => false
def Ctx.isE (c : Ctx) (i : Nat) : Bool := match c.cls[i]? with
  | some (.exc _) => true
  | _ => false
def Ctx.hasM (c : Ctx) (i : Nat) (m : Str) (f : Nat) : Bool := match c.cls[i]? with
  | some (.ins _ _ ms _) => decide ((m, f) ∈ ms)
  | _ => false
def Ctx.hasF (c : Ctx) (i : Nat) (n : Str) : Bool := match c.cls[i]? with
  | some (.ins _ fl _ _) => decide (n ∈ fl)
  | _ => false
def Ctx.mkF (c : Ctx) (i : Nat) (x : Str) (f : Nat) : Bool := match c.cls[i]? with
  | some (.ins y _ _ ini) => decide (y = x) && decide (ini = f)
  | _ => false
def okName (x : Str) : Bool := !(x == ("__debug__" : Str)) && !(x == ("__classdict__" : Str)) && !(x == ("__name__" : Str))
def Ctx.vis (c : Ctx) (i : Nat) (x : Str) : Bool := okName x && decide (c.N[i]? = some x) && (match c.sc.names.lookup x with | some .local => true | some .cell => true | some .free => true | _ => false)
def Ctx.gl (c : Ctx) (x : Str) : Bool := okName x && decide (c.sc.names.lookup x = some .globalImplicit)
def Ctx.bindable (c : Ctx) (i : Nat) (x : Str) : Bool := decide (c.N[i]? = some x) && (match c.sc.names.lookup x with | some .local => true | some .cell => c.fnl x | _ => false)
def litOk : D → Const → Bool
  | .non, .none => true
  | .bl a, .bool b => a == b
  | .int a, .int b => a == b
  | .str a, .str b => a == b
  | _, _ => false
def Bop.ok : Bop → Operator → Bool
  | .add, .Add => true | .sub, .Sub => true | .mul, .Mult => true | .mod, .Mod => true | .fdiv, .FloorDiv => true
  | _, _ => false
def Cop.ok : Cop → CmpOp → Bool
  | .eq, .Eq => true | .ne, .NotEq => true | .lt, .Lt => true | .le, .LtE => true | .gt, .Gt => true | .ge, .GtE => true
  | .is, .Is => true | .isnot, .IsNot => true | .mem, .In => true | .nmem, .NotIn => true
  | _, _ => false
def Bi.nm : Bi → Str
  | .len => "len" | .abs => "abs" | .max => "max" | .min => "min" | .all => "all" | .any => "any" | .sum => "sum" | .sorted => "sorted" | .isi => "isinstance"
def Bt.nm : Bt → Str
  | .tuple => "tuple" | .list => "list" | .int => "int" | .dict => "dict" | .set => "set" | .str => "str" | .ptuple => "tuple"
def Mth.nm : Mth → Str
  | .append => "append" | .extend => "extend" | .popL => "pop" | .dget => "get" | .dpop => "pop" | .insert => "insert" | .remove => "remove" | .setdef => "setdefault"
def tyNames : List String := ["int", "bool", "str", "tuple", "list"]
/-- the built-in names that a text may lean on -/
def bnames : List Str := ["len", "abs", "max", "min", "all", "any", "sum", "sorted", "isinstance", "tuple", "list", "int", "dict", "set", "str", "bool", "range", "zip", "enumerate"]
def notStar : Expr → Bool
  | .Starred .. => false
  | _ => true
def notSlice : Expr → Bool
  | .Slice .. => false
  | _ => true
def notSet : Expr → Bool
  | .Set .. => false
  | _ => true
def notCall : Expr → Bool
  | .Call (.Name ..) [] [] _ => false
  | _ => true
def isLc : Expr → Bool
  | .ListComp .. => true
  | .SetComp .. => true
  | .DictComp .. => true
  | _ => false
def namesOk (c : Ctx) : List Nat → List Expr → Bool
  | [], [] => true
  | i :: is, .Name x _ :: es => c.bindable i x && namesOk c is es
  | _, _ => false
def names2Ok (c : Ctx) : List (Nat ⊕ List Nat) → List Expr → Bool
  | [], [] => true
  | .inl i :: ps, .Name x _ :: es => c.bindable i x && names2Ok c ps es
  | .inr is :: ps, .Tuple xs _ _ :: es => namesOk c is xs && names2Ok c ps es
  | _, _ => false
def chkP (c : Ctx) : Pat → Expr → Bool
  | .nm i, .Name x _ => c.bindable i x
  | .tp is, .Tuple es _ _ => namesOk c is es
  | .tl is, .Tuple es _ _ => namesOk c is es
  | .tn ps, .Tuple es _ _ => names2Ok c ps es
  | _, _ => false
def isTup : Expr → Bool
  | .Tuple .. => true
  | _ => false
def ownOf (c : Ctx) (own : List Nat) : List (Str × Nat) := own.filterMap fun i => (c.N[i]?).map fun x => (x, i)
def Ctx.inner (c : Ctx) (scope : Scope) : Ctx := { c with sc := relS scope c.sc, fnl := fun x => scope.names.lookup x == some .cell }
def isBO : Expr → Bool
  | .BoolOp .. => true
  | _ => false
def isFree : Expr → Bool
  | .UnaryOp .Not _ _ => false
  | .BoolOp .. => false
  | .IfExp .. => false
  | .Compare .. => false
  | _ => true
mutual
def chkE (c : Ctx) : E → Expr → Bool
  | .var i => fun z => match z with
    | .Name x _ => c.vis i x
    | _ => false
  | .lit d => fun z => match z with
    | .Constant k _ _ => litOk d k
    | _ => false
  | .ty n => fun z => match z with
    | .Name x _ => c.gl x && decide (x = Str.ofString n) && tyNames.contains n
    | _ => false
  | .fn i => fun z => match z with
    | .Name x _ => c.gl x && decide (c.fns[i]? = some (some x))
    | _ => false
  | .bin o a b => fun z => match z with
    | .BinOp x op y _ => o.ok op && chkE c a x && chkE c b y
    | _ => false
  | .neg a => fun z => match z with
    | .UnaryOp .USub x _ => chkE c a x
    | _ => false
  | .cmp o a b => fun z => match z with
    | .Compare x [op] [y] _ => o.ok op && !behindInMarks op y && chkE c a x && chkE c b y
    | _ => false
  | .cmp2 o p a b d => fun z => match z with
    | .Compare x [op, op'] [y, z] _ => o.ok op && p.ok op' && !lastMarks [op, op'] [y, z] && chkE c a x && chkE c b y && chkE c d z
    | _ => false
  | .and a b => fun z => match z with
    | .BoolOp .And (x :: y :: r) pos => chkE c a x && chkE c b (.BoolOp .And (y :: r) pos)
    | _ => false
  | .or a b => fun z => match z with
    | .BoolOp .Or (x :: y :: r) pos => chkE c a x && chkE c b (.BoolOp .Or (y :: r) pos)
    | _ => false
  | .one a => fun z => match z with
    | .BoolOp _ [x] _ => chkE c a x
    | _ => false
  | .not a => fun z => match z with
    | .UnaryOp .Not x _ => chkE c a x
    | _ => false
  | .ite t a b => fun z => match z with
    | .IfExp x y z _ => chkE c t x && chkE c a y && chkE c b z
    | _ => false
  | .call f es => fun z => match z with
    | .Call (.Name x _) xs [] _ => c.gl x && decide (c.fns[f]? = some (some x)) && chkEs c es xs && !xs.isEmpty
    | _ => false
  | .bi b es => fun z => match z with
    | .Call (.Name x _) xs [] _ => c.gl x && decide (b.nm = x) && chkEs c es xs && !xs.isEmpty
    | _ => false
  | .bt b es => fun z => match z with
    | .Call (.Name x _) xs [] _ => c.gl x && decide (b.nm = x) && chkEs c es xs && !xs.isEmpty
    | _ => false
  | .mth m o es => fun z => match z with
    | .Call (.Attribute x n apos) xs [] cpos => decide (m.nm = n) && notCall x && (apos.endLine == cpos.line) && decide (xs.length < 20) && chkE c o x && chkEs c es xs && !xs.isEmpty
    | _ => false
  | .idx a b => fun z => match z with
    | .Subscript x y _ => notSlice y && chkE c a x && chkE c b y
    | _ => false
  | .slc a lo hi => fun z => match z with
    | .Subscript x (.Slice l h none _) _ => chkE c a x && (match l with | none => lo.isNo | some y => !lo.isNo && chkE c lo y) && (match h with | none => hi.isNo | some y => !hi.isNo && chkE c hi y)
    | _ => false
  | .rev a => fun z => match z with
    | .Subscript x (.Slice none none (some (.UnaryOp .USub (.Constant (.int 1) _ _) _)) _) _ => chkE c a x
    | _ => false
  | .glo y k => fun z => match z with
    | .Name x _ => c.gl x && decide (x = y) && decide ((y, k) ∈ c.gls)
    | _ => false
  | .callL i fs es => fun z => match z with
    | .Call (.Name x _) xs [] _ => c.vis i x && chkEs c es xs && !xs.isEmpty && fs.all fun f => (c.fns[f]?).isSome
    | _ => false
  | .tup es => fun z => match z with
    | .Tuple xs _ _ => chkEs c es xs
    | _ => false
  | .lst es => fun z => match z with
    | .List xs _ => chkEs c es xs
    | _ => false
  | .lstR es => fun z => match z with
    | .List xs _ => chkEs c es xs
    | _ => false
  | .dK => fun z => match z with
    | .Dict [] [] _ => true
    | _ => false
  | .dT => fun z => match z with
    | .Dict [] [] _ => true
    | _ => false
  | .comp p it t elt own => fun z => match z with
    | .ListComp x [⟨tg, iter, ifs, 0⟩] scope _ => notSet iter && blkC c.N c.sc scope (ownOf c own) && decide ((ownOf c own).map (·.2) = own) && chkIt c it tg iter && chkP (c.inner scope) p tg && (match p with | .nm i => decide (i ∈ own) | .tp is => is.all (fun i => decide (i ∈ own)) | .tl is => is.all (fun i => decide (i ∈ own)) | .tn ps => ps.all fun p => match p with | .inl i => decide (i ∈ own) | .inr is => is.all fun i => decide (i ∈ own)) && (match ifs with | [] => t.isNo | [y] => !t.isNo && chkE (c.inner scope) t y | _ => false) && chkE (c.inner scope) elt x
    | _ => false
  | .no => fun _ => false
  | .sset a => fun z => match z with
    | .Call (.Name x _) [.Call (.Name y _) [w] [] _] [] _ => c.gl x && c.gl y && decide (x = ("sorted" : Str)) && decide (y = ("set" : Str)) && notStar w && chkE c a w
    | _ => false
  | .dKs es => fun z => match z with
    | .Dict ks vs _ => ks.all (·.isSome) && decide (ks.length = vs.length) && !ks.isEmpty && decide (ks.length ≤ 15) && chkPs c es ks vs
    | _ => false
  | .lk _ b => fun z => isFree z && !isBO z && chkE c b z
  | .meth k m f o es => fun z => match z with
    | .Call (.Attribute x n apos) xs [] cpos => decide (m = n) && notCall x && (apos.endLine == cpos.line) && decide (xs.length < 20) && c.hasM k m f && chkE c o x && chkEs c es xs
    | _ => false
  | .make k f es => fun z => match z with
    | .Call (.Name x _) xs [] _ => c.gl x && c.mkF k x f && chkEs c es xs && !xs.isEmpty
    | _ => false
  | .fld o k n => fun z => match z with
    | .Attribute x m _ => decide (n = m) && notCall x && c.hasF k n && chkE c o x
    | _ => false
def chkPs (c : Ctx) : Es → List (Option Expr) → List Expr → Bool
  | .nil => fun ks vs => match ks, vs with
    | [], [] => true
    | _, _ => false
  | .cons k (.cons v r) => fun ks vs => match ks, vs with
    | some x :: ks, y :: vs => chkE c k x && chkE c v y && chkPs c r ks vs
    | _, _ => false
  | .cons _ .nil => fun _ _ => false
def chkEs (c : Ctx) : Es → List Expr → Bool
  | .nil => fun z => match z with
    | [] => true
    | _ => false
  | .cons e es => fun z => match z with
    | x :: xs => notStar x && chkE c e x && chkEs c es xs
    | _ => false
def chkIt (c : Ctx) : It → Expr → Expr → Bool
  | .seq e => fun _ x => chkE c e x
  | .range1 a => fun _ z => match z with
    | .Call (.Name n _) [x] [] _ => c.gl n && decide (n = ("range" : Str)) && notStar x && chkE c a x
    | _ => false
  | .range2 a b => fun _ z => match z with
    | .Call (.Name n _) [x, y] [] _ => c.gl n && decide (n = ("range" : Str)) && notStar x && notStar y && chkE c a x && chkE c b y
    | _ => false
  | .zip a b => fun tg z => match z with
    | .Call (.Name n _) [x, y] [] _ => isTup tg && c.gl n && decide (n = ("zip" : Str)) && notStar x && notStar y && chkE c a x && chkE c b y
    | _ => false
  | .keys e => fun _ x => chkE c e x
  | .vals e => fun _ z => match z with
    | .Call (.Attribute x n apos) [] [] cpos => decide (n = ("values" : Str)) && notCall x && (apos.endLine == cpos.line) && chkE c e x
    | _ => false
end

/-! ### the judgements -/
section
variable (T : TW) (W : WX)
def postG {B : Type} (σ : L2.St) (H : Hp) (α : List Addr) (r : R B) (K : B → Hp → List Addr → Sto → Prop) : Prop := match r with
  | .ok b S' => ∀ H' α', Ext H α H' α' → HR T H' α' S' → K b H' α' S'
  | .exc c S' => ∀ H' α', Ext H α H' α' → HR T H' α' S' → W (.ref (T.ca c)) none σ H'
  | .stuck => False
def tE (m : Env → Sto → R D) : TE := fun σ H Q => ∃ Z α ρ S, HR (T.wp Z) H α S ∧ RepE (T.wp Z) H α ρ σ ∧ postG (T.wp Z) W σ H α (m ρ S) fun d H' α' _ => ∀ v, Rep (T.wp Z) H' α' d v → Q v H'
def tT (m : Env → Sto → R Bool) : TT := fun σ H Q => ∃ Z α ρ S, HR (T.wp Z) H α S ∧ RepE (T.wp Z) H α ρ σ ∧ postG (T.wp Z) W σ H α (m ρ S) fun b H' _ _ => Q b H'
def tA (m : Env → Sto → R (List D)) : TA := fun σ H Q => ∃ Z α ρ S, HR (T.wp Z) H α S ∧ RepE (T.wp Z) H α ρ σ ∧ postG (T.wp Z) W σ H α (m ρ S) fun ds H' α' _ => ∀ vs, RepL (T.wp Z) H' α' ds vs → Q vs H'
def tOp' (m : Env → Sto → R (Option Int)) : TO := fun σ H Q => ∃ Z α ρ S, HR (T.wp Z) H α S ∧ RepE (T.wp Z) H α ρ σ ∧ postG (T.wp Z) W σ H α (m ρ S) fun o H' _ _ => Q o H'
end
section
variable {T : TW} {W : WX} {σ : L2.St} {H : Hp} {α : List Addr}
theorem postG.mono {B : Type} {r : R B} {K K' : B → Hp → List Addr → Sto → Prop} (h : postG T W σ H α r K) (k : ∀ b H' α' S', Ext H α H' α' → HR T H' α' S' → K b H' α' S' → K' b H' α' S') : postG T W σ H α r K' := by
  cases r with
  | ok b S => exact fun H' α' e hr => k _ _ _ _ e hr (h H' α' e hr)
  | exc c S => exact h
  | stuck => exact h
theorem postG.ext {B : Type} {H1 : Hp} {α1 : List Addr} {r : R B} {K : B → Hp → List Addr → Sto → Prop} (e : Ext H α H1 α1) (h : postG T W σ H α r K) : postG T W σ H1 α1 r K := by
  cases r with
  | ok b S => exact fun H' α' e' hr => h H' α' (e.trans e') hr
  | exc c S => exact fun H' α' e' hr => h H' α' (e.trans e') hr
  | stuck => exact h
theorem postG.bind {A B : Type} {r : R A} {k : A → Sto → R B} {K : B → Hp → List Addr → Sto → Prop} (h : postG T W σ H α (r.bind k) K) : postG T W σ H α r fun a H' α' S' => postG T W σ H' α' (k a S') K := by
  cases r with
  | ok a S => exact fun H' α' e hr => postG.ext e h
  | exc c S => exact h
  | stuck => exact h
/-- an operation at the end -/
theorem postG.op {f : OpF} {S : Sto} {ds : List D} {vs : List V} {Q : VK} (hr : HR T H α S) (rs : RepL T H α ds vs) (h : postG T W σ H α (liftO (f S ds)) fun d H' α' _ => ∀ v, Rep T H' α' d v → Q v H') : rC T f vs H Q := by
  cases e : f S ds with
  | none => rw [e] at h; exact h.elim
  | some p =>
    obtain ⟨d, S'⟩ := p
    rw [e] at h
    exact ⟨α, S, ds, d, S', hr, rs, e, fun v H' α' e1 h1 r1 => h H' α' e1 h1 v r1⟩
end
/-- the same, whatever lists are in the making -/
def rX (T : TW) (f : OpF) : List V → Hp → VK → Prop := fun xs H Q => ∃ Z, rC (T.wp Z) f xs H Q
def rX2 (T : TW) (f : OpF) : R2 := fun x y H Q => ∃ Z, rC2 (T.wp Z) f x y H Q
theorem OpR.rX {X : Cx} {T : TW} {F : Value → Value → Sem Value} {f : OpF} (h : ∀ T' : TW, T'.K = T.K → OpR X F (rC2 T' f)) : OpR X F (rX2 T f) := OpR.cases fun x y H Q ⟨Z, q⟩ => ⟨_, h (T.wp Z) rfl, q⟩
theorem CallR.rX {X : Cx} {T : TW} {F : Value} {f : OpF} (h : ∀ T' : TW, T'.K = T.K → CallR X F (rC T' f)) : CallR X F (rX T f) := CallR.cases fun xs H Q ⟨Z, q⟩ => ⟨_, h (T.wp Z) rfl, q⟩
theorem PE.imp {X : Cx} {e : Expr} {t t' : TE} (h : PE X e t) (k : ∀ σ H Q, t' σ H Q → t σ H Q) : PE X e t' := ⟨fun pins s σ H Q I q => h.run pins s σ H Q I (k _ _ _ q)⟩
theorem PT.imp {X : Cx} {e : Expr} {t t' : TT} (h : PT X e t) (k : ∀ σ H Q, t' σ H Q → t σ H Q) : PT X e t' := ⟨fun pins s σ H Q I q => h.run pins s σ H Q I (k _ _ _ q)⟩
theorem PW.imp {X : Cx} {e : Expr} {t t' : TT} (h : PW X e t) (k : ∀ σ H Q, t' σ H Q → t σ H Q) : PW X e t' := ⟨fun w pins s σ H Q I q => h.run w pins s σ H Q I (k _ _ _ q)⟩
theorem PA.imp {X : Cx} {e : List Expr} {t t' : TA} (h : PA X e t) (k : ∀ σ H Q, t' σ H Q → t σ H Q) : PA X e t' := ⟨fun p pins s σ H Q I q => h.run p pins s σ H Q I (k _ _ _ q)⟩
theorem PO.imp {X : Cx} {e : Option Expr} {t t' : TO} (h : PO X e t) (k : ∀ σ H Q, t' σ H Q → t σ H Q) : PO X e t' := ⟨fun pins s σ H Q I q => h.run pins s σ H Q I (k _ _ _ q)⟩

/-- a def called: its values in, its answer out -/
def spI (T : TW) (np : Nat) (cf : List D → Sto → R D) : Sp := fun vs H Q E => vs.length = np ∧ ∃ Z α S ds, HR (T.wp Z) H α S ∧ RepL (T.wp Z) H α ds vs ∧ match cf ds S with
  | .ok d S' => ∀ H' α', Ext H α H' α' → HR (T.wp Z) H' α' S' → ∀ v, Rep (T.wp Z) H' α' d v → Q v H'
  | .exc c S' => ∀ H' α', Ext H α H' α' → HR (T.wp Z) H' α' S' → E (.ref (T.ca c)) none H'
  | .stuck => False

/-- the context is as the checker took it -/
structure Good (T : TW) (cf : Nat → List D → Sto → R D) (c : Ctx) (X : Cx) (W : WX) : Prop where
  N : X.N = c.N
  nd : c.N.Nodup
  sc : X.env.scope = c.sc
  kind : c.sc.kind = .function
  fnl : X.fn = c.fnl
  K : X.K = T.K
  calm : X.calm = true
  room : ∃ k, Room (k + 1) X.A ∧ ∀ (f : Nat) (fn : Option Str), c.fns[f]? = some fn → ∃ fd ps np, (∀ x, fn = some x → X.mg x = some (.ref (T.fa f))) ∧ PySem.W.keepIn X.K (.ref (T.fa f)) = true ∧ FnOk X.prog X.w X.K X.mg X.base (L2.CX X.prog X.w) k (T.fa f) fd ps (spI T np (cf f)) ∧ ps.length = np ∧ Binds X.K fd ps [] ∧ ∀ ds S, ds.length ≠ np → cf f ds S = .stuck
  gls : ∀ x k, (x, k) ∈ c.gls → ∃ v u, X.mg x = some u ∧ RelV v u ∧ ∀ (T' : TW) H α, T'.K = T.K → Rep T' H α k.d v
  bn : ∀ x ∈ bnames, X.mg x = none
  ex : ∀ i x, c.cls[i]? = some (.exc x) → X.mg x = some (.ref (T.ca i)) ∧ PySem.W.excIn X.K (T.ca i) He.veBase "ValueError.__new__" = true ∧ PySem.W.keepIn X.K (.ref (T.ca i)) = true ∧ Raises X (.ref (T.ca i)) ∧
    ∀ j y, c.cls[j]? = some (.exc y) → PySem.W.exmOne X.K (.ref (T.ca i)) (.ref (T.ca j)) = some (decide (i = j))
  cl : ∀ i x fl ms ini, c.cls[i]? = some (.ins x fl ms ini) → Cls X.K (T.ca i) ∧ X.mg x = some (.ref (T.ca i)) ∧ (∀ f ∈ fl, NoAttr X.K (T.ca i) f) ∧ (∀ m f, (m, f) ∈ ms → Meth X.K (T.ca i) m (T.fa f) ∧ (c.fns[f]?).isSome = true) ∧ Mk X.K (T.ca i) (T.fa ini) ∧ (c.fns[ini]?).isSome = true
  tk : Takes X W
theorem Good.units {T cf c X W} (g : Good T cf c X W) : X.A.units + 66 < cLine := by
  obtain ⟨k, r, _⟩ := g.room
  have := r.un
  omega
end NT
/-! the interpreter is right: expressions -/
namespace NT
open PySem L2

theorem star_eq {x : Expr} {xs : List Expr} {env : PySem.Env} (h : notStar x = true) : starEach (x :: xs) env = (false, eval x env) :: starEach xs env := by
  cases x <;> first | rfl | cases h
theorem star_any {pos : Pos} {env : PySem.Env} : ∀ {xs : List Expr}, (∀ x ∈ xs, notStar x = true) → (backTo pos (starEach xs env)).any (·.1) = false
  | [], _ => rfl
  | x :: xs, h => by
    rw [star_eq (h x List.mem_cons_self)]
    show (false || (backTo pos (starEach xs env)).any (·.1)) = false
    rw [star_any fun y hy => h y (List.mem_cons_of_mem _ hy)]
    rfl
theorem star_all {pos : Pos} {env : PySem.Env} : ∀ {xs : List Expr}, (∀ x ∈ xs, notStar x = true) → (backTo pos (starEach xs env)).all (fun x => !x.1) = true
  | [], _ => rfl
  | x :: xs, h => by
    rw [star_eq (h x List.mem_cons_self)]
    show (true && (backTo pos (starEach xs env)).all (fun x => !x.1)) = true
    rw [star_all fun y hy => h y (List.mem_cons_of_mem _ hy)]
    rfl
theorem plainIx_of {y : Expr} (h : notSlice y = true) : PlainIx y := by
  intro o i
  cases y <;> first | rfl | cases h
theorem fold_of {y : Expr} {env : PySem.Env} (h : notSet y = true) : ∀ x, foldedSetIterable y env x = pure x := by
  intro x
  cases y <;> first | rfl | cases h
theorem base_of {o : Expr} {n : Str} {env : PySem.Env} (h : notCall o = true) : attributeBase o n env (eval o env) = eval o env := by
  unfold notCall at h
  split at h
  · cases h
  · rename_i hn
    unfold attributeBase
    split
    · rename_i id p pos
      exact (hn id p pos rfl).elim
    · rfl
section
variable {T : TW} {cf : Nat → List D → Sto → R D} {c : Ctx} {X : Cx} {W : WX}
theorem okName_iff {x : Str} (h : okName x = true) : (x == ("__debug__" : Str)) = false ∧ (x == ("__classdict__" : Str)) = false ∧ x ≠ "__name__" := by
  unfold okName at h
  simp only [Bool.and_eq_true, Bool.not_eq_true'] at h
  exact ⟨h.1.1, h.1.2, fun e => by subst e; simp at h⟩
theorem Good.var (g : Good T cf c X W) {i : Nat} {x : Str} {pos : Pos} (h : c.vis i x = true) : PE X (.Name x pos) (tVar i) := by
  unfold Ctx.vis at h
  simp only [Bool.and_eq_true, decide_eq_true_eq] at h
  obtain ⟨⟨h1, h2⟩, h3⟩ := h
  obtain ⟨n1, n2, n3⟩ := okName_iff h1
  refine pe_var (by rw [g.N]; exact h2) ?_ n1 n2
  unfold Vis
  rw [g.sc]
  split at h3
  · exact .inl (by assumption)
  · exact .inr (.inl (by assumption))
  · exact .inr (.inr (by assumption))
  · cases h3
theorem Good.gl (g : Good T cf c X W) {x : Str} (h : c.gl x = true) : Gl X x ∧ (x == ("__debug__" : Str)) = false ∧ x ≠ "__name__" := by
  unfold Ctx.gl at h
  simp only [Bool.and_eq_true, decide_eq_true_eq] at h
  obtain ⟨n1, n2, n3⟩ := okName_iff h.1
  refine ⟨?_, n1, n3⟩
  show X.env.scope.names.lookup x = some .globalImplicit
  rw [g.sc]
  exact h.2
theorem truV_of {Z : PZ} {α1 : List Addr} {S1 : Sto} {H1 : Hp} {d : D} {v : V} {b : Bool} (h1 : HR (T.wp Z) H1 α1 S1) (rv : Rep (T.wp Z) H1 α1 d v) (et : truB S1 d = some b) : TruV (T.wp Z).K v H1 b := by
  have seq : ∀ {k ds}, asSeq S1 d = some (k, ds) → b = !ds.isEmpty → TruV (T.wp Z).K v H1 b := fun {k ds} e2 e3 => by
    obtain ⟨a, vs, rfl, rl, sq⟩ := asSeq_ok h1 rv e2
    have e4 : ds.isEmpty = vs.isEmpty := by
      have := rl.length
      cases ds <;> cases vs <;> simp at this ⊢
    rw [e3, e4]
    cases k with
    | true => exact .inl ⟨vs, by simpa using sq, rfl⟩
    | false => exact .inr (.inl ⟨vs, by simpa using sq, rfl⟩)
  cases d with
  | non => cases et; cases rv; rfl
  | bl b' => cases et; cases rv; rfl
  | int i => cases et; cases rv; rfl
  | str y =>
    simp only [truB] at et
    split at et
    · cases et; cases rv
      exact ⟨by assumption, rfl⟩
    · cases et
  | tup ds => cases et; exact seq (k := false) rfl rfl
  | pt ds => cases et; exact seq (k := false) rfl rfl
  | lst ds => cases et; exact seq (k := true) rfl rfl
  | wt ds => cases et; exact seq (k := false) rfl rfl
  | wl ds => cases et; exact seq (k := true) rfl rfl
  | ref i =>
    simp only [truB] at et
    split at et
    · rename_i k ds e2
      cases et
      exact seq e2 rfl
    · split at et
      · rename_i kvs e2
        cases et
        obtain ⟨a, rfl, ha⟩ := rv
        obtain ⟨a', u, e3, e4, ws, rfl, e5⟩ := h1.cell _ _ e2
        rw [ha] at e3; cases e3
        refine .inr (.inr ⟨ws, e4, ?_⟩)
        have := e5.length
        cases kvs <;> cases ws <;> simp at this ⊢
      · cases et
  | fn i => cases et
  | ty n => cases et
theorem plainT {x : Expr} {m : NT.Env → Sto → R D} (hK : X.K = T.K) (hp : PE X x (tE T W m)) (he : ∀ whole, isTrue x X.env whole = (do let v ← whole; standAt x.pos; holding [v] (truthy v))) : PT X x (tT T W (plainE m).2) := by
  refine PT.imp (pt_truth hp he) fun σ H Q h => ?_
  obtain ⟨Z, α, ρ, S, hr, re, q⟩ := h
  refine ⟨Z, α, ρ, S, hr, re, (postG.bind q).mono fun d H1 α1 S1 e1 h1 q1 v rv => ?_⟩
  cases et : truB S1 d with
  | none => rw [et] at q1; exact q1.elim
  | some b =>
    rw [et] at q1
    refine ⟨b, ?_, q1 H1 α1 (Ext.refl _ _) h1⟩
    rw [show X.K = (T.wp Z).K from hK]
    exact truV_of h1 rv et
theorem boolT {x : Expr} {m : NT.Env → Sto → R D} {t : TE} (hp : PT X x (tTest t)) (ht : ∀ σ H Q, tE T W m σ H Q → t σ H Q) : PT X x (tT T W (boolE m).2) := by
  refine PT.imp hp fun σ H Q h => ?_
  obtain ⟨Z, α, ρ, S, hr, re, q⟩ := h
  refine ht _ _ _ ⟨Z, α, ρ, S, hr, re, (postG.bind q).mono fun d H1 α1 S1 e1 h1 q1 v rv => ?_⟩
  cases d with
  | bl b => cases rv; exact ⟨b, rfl, q1 H1 α1 (Ext.refl _ _) h1⟩
  | _ => exact q1.elim

/-! ### one operation -/
theorem two_op {m1 m2 : NT.Env → Sto → R D} {f : OpF} {σ : L2.St} {H : Hp} {Q : VK} (h : tE T W (fun ρ S => (m1 ρ S).bind fun x S1 => (m2 ρ S1).bind fun y S2 => liftO (f S2 [x, y])) σ H Q) : tOp (rX2 T f) (tE T W m1) (tE T W m2) σ H Q := by
  obtain ⟨Z, α, ρ, S, hr, re, q⟩ := h
  refine ⟨Z, α, ρ, S, hr, re, (postG.bind q).mono fun d H1 α1 S1 e1 h1 q1 v1 r1 => ?_⟩
  refine ⟨Z, α1, ρ, S1, h1, re.ext e1, (postG.bind q1).mono fun d2 H2 α2 S2 e2 h2 q2 v2 r2 => ?_⟩
  exact ⟨Z, postG.op h2 (show RepL (T.wp Z) H2 α2 [d, d2] [v1, v2] from ⟨v1, [v2], rfl, r1.ext e2, v2, [], rfl, r2, rfl⟩) q2⟩
theorem cmp_rule (g : Good T cf c X W) : ∀ {o : Cop} {op : CmpOp}, o.ok op = true → OpR X (compareOp op) (rX2 T o.f) := by
  intro o op h
  refine OpR.rX fun T' hT => ?_
  have hK : X.K = T'.K := g.K.trans hT.symm
  have hu := g.units
  cases o <;> cases op <;> first
    | (exfalso; exact absurd (show false = true from h) Bool.false_ne_true)
    | exact op_eq' hK (by omega)
    | exact op_ne' hK (by omega)
    | exact op_lt' hK (by omega)
    | exact op_le' hK (by omega)
    | exact op_gt' hK (by omega)
    | exact op_ge' hK (by omega)
    | exact op_is'
    | exact op_isnot'
    | exact op_in' hK (by omega)
    | exact op_notin' hK (by omega)
theorem bin_rule (g : Good T cf c X W) : ∀ {o : Bop} {op : Operator}, o.ok op = true → OpR X (binaryOp op) (rX2 T o.f) := by
  intro o op h
  refine OpR.rX fun T' hT => ?_
  have hK : X.K = T'.K := g.K.trans hT.symm
  cases o <;> cases op <;> first
    | (exfalso; exact absurd (show false = true from h) Bool.false_ne_true)
    | exact op_add' hK
    | exact op_sub'
    | exact op_mul' hK
    | exact op_mod'
    | exact op_fdiv'
theorem call_none {f : Value} {T : TW} : CallR X f (rC T noF) := fun pins s σ H xs us Q I r h => by
  obtain ⟨α, S, ds, r', S', _, _, e, _⟩ := h
  cases e
theorem bi_rule (g : Good T cf c X W) (b : Bi) : ∃ id, bootBuiltins b.nm = some (.builtin id) ∧ CallR X (.builtin id) (rX T b.f) := by
  have hu := g.units
  cases b
  · exact ⟨"len", by decide +kernel, CallR.rX fun T' hT => len_ok (g.K.trans hT.symm)⟩
  · exact ⟨"abs", by decide +kernel, CallR.rX fun T' hT => abs_ok⟩
  · exact ⟨"max", by decide +kernel, CallR.rX fun T' hT => max_ok (g.K.trans hT.symm) g.calm⟩
  · exact ⟨"min", by decide +kernel, CallR.rX fun T' hT => min_ok (g.K.trans hT.symm) g.calm⟩
  · exact ⟨"all", by decide +kernel, CallR.rX fun T' hT => all_ok (g.K.trans hT.symm) g.calm⟩
  · exact ⟨"any", by decide +kernel, CallR.rX fun T' hT => any_ok (g.K.trans hT.symm) g.calm⟩
  · exact ⟨"sum", by decide +kernel, CallR.rX fun T' hT => sum_ok (g.K.trans hT.symm) g.calm⟩
  · exact ⟨"sorted", by decide +kernel, CallR.rX fun T' hT => sorted_ok (g.K.trans hT.symm) g.calm (by omega)⟩
  · exact ⟨"isinstance", by decide +kernel, CallR.rX fun T' hT => isi_ok (g.K.trans hT.symm)⟩
theorem bt_rule (g : Good T cf c X W) (b : Bt) : ∃ id, bootBuiltins b.nm = some (.type id) ∧ CallR X (.type id) (rX T b.f) := by
  have hu := g.units
  cases b
  · exact ⟨"tuple", by decide +kernel, CallR.rX fun T' hT => tuple_ok (g.K.trans hT.symm)⟩
  · exact ⟨"list", by decide +kernel, CallR.rX fun T' hT => list_ok (g.K.trans hT.symm)⟩
  · exact ⟨"int", by decide +kernel, CallR.rX fun T' hT => int_ok⟩
  · exact ⟨"dict", by decide +kernel, CallR.rX fun T' hT => dict_ok (g.K.trans hT.symm) g.calm⟩
  · exact ⟨"set", by decide +kernel, CallR.rX fun T' hT => call_none⟩
  · exact ⟨"str", by decide +kernel, CallR.rX fun T' hT => call_none⟩
  · exact ⟨"tuple", by decide +kernel, CallR.rX fun T' hT => ptuple_ok (g.K.trans hT.symm)⟩
theorem Bi.mem (b : Bi) : b.nm ∈ bnames := by cases b <;> decide +kernel
theorem Bt.mem (b : Bt) : b.nm ∈ bnames := by cases b <;> decide +kernel
theorem args_op {m : NT.Env → Sto → R (List D)} {f : OpF} {σ : L2.St} {H : Hp} {Q : VK} (h : tE T W (fun ρ S => (m ρ S).bind fun ds S1 => liftO (f S1 ds)) σ H Q) : tCB (rX T f) (tA T W m) σ H Q := by
  obtain ⟨Z, α, ρ, S, hr, re, q⟩ := h
  refine ⟨Z, α, ρ, S, hr, re, (postG.bind q).mono fun ds H1 α1 S1 e1 h1 q1 vs r1 => ?_⟩
  exact ⟨Z, postG.op h1 r1 q1⟩
end
end NT
/-! walks, targets, comprehensions -/
namespace NT
open PySem L2
section
variable {T : TW} {cf : Nat → List D → Sto → R D} {c : Ctx} {X : Cx} {W : WX}

/-! ### what is walked -/
/-- an iterator over these items, as long as the cells gs stand -/
def WalkOk (T : TW) (J : L2.It) (items : List D) (gs : Gs) (H0 : Hp) (α0 : List Addr) : Prop := ∀ (Z : PZ) i H α S, i ≤ items.length → (∀ a ∈ T.pz, a ∈ Z) → Ext H0 α0 H α → HR (T.wp Z) H α S → (∀ d v, Rep T H0 α0 d v → Rep (T.wp Z) H α d v) → gok gs S →
  (i < items.length → J.go i H ∧ ∀ x H', J.yld i H x H' → ∃ d, items[i]? = some d ∧ Ext H α H' α ∧ HR (T.wp Z) H' α S ∧ Rep (T.wp Z) H' α d x) ∧ (i = items.length → J.stop i H)
def tI (T : TW) (W : WX) (m : NT.Env → Sto → R (List D × Gs)) : TI := fun σ H Q => ∃ Z α ρ S, HR (T.wp Z) H α S ∧ RepE (T.wp Z) H α ρ σ ∧ postG (T.wp Z) W σ H α (m ρ S) fun ig H' α' _ => ∀ J, WalkOk (T.wp Z) J ig.1 ig.2 H' α' → Q J H'
theorem PI.imp {tg e : Expr} {t t' : TI} (h : PI X tg e t) (k : ∀ σ H Q, t' σ H Q → t σ H Q) : PI X tg e t' := ⟨fun pins s σ H Q I q => h.run pins s σ H Q I (k _ _ _ q)⟩
def iSeq (K : PySem.W.Frag) (tl : TE) : TI := fun σ H R => tl σ H fun x H1 => ∃ a, x = .ref a ∧ (((∃ xs, SqL K H1 a xs) ∧ R (Itl K a) H1) ∨ ((∃ xs, SqT K H1 a xs) ∧ R (Itt K a) H1))
open PySem.Spec PyProof.Rows in
theorem pi_seq {tg l : Expr} {tl : TE} (hl : PE X l tl) : PI X tg l (iSeq X.K tl) := by
  refine ⟨fun pins s σ H R I h => ?_⟩
  refine thn (hl.run pins s σ H _ I h) fun v s1 ⟨x, H1, I1, r1, q1⟩ => ?_
  obtain ⟨a, e, q⟩ := q1
  subst e
  cases r1
  rcases q with ⟨⟨xs, hq⟩, q⟩ | ⟨⟨xs, hq⟩, q⟩
  · obtain ⟨its, rv, p, hz⟩ := I1.list hq
    refine wpAny_pyIter_list p.isList ?_
    refine ⟨s1.heap.objs.size, [s1.heap.objs.size], _, _, H1, rfl, I1.kept (t' := s1.toks) fun b o e => Heap.get?_push_of_some _ e, turn_list a _, ⟨_, Heap.get?_push_size _ rfl, rfl, rfl⟩, fun b hb => ?_, q⟩
    have e : b = s1.heap.objs.size := by simpa using hb
    subst e
    exact I1.fpOk (Nat.le_refl _) (I1.hok.fresh (Nat.le_refl _))
  · obtain ⟨its, rv, p, hz⟩ := I1.tuple hq
    refine wpAny_pyIter_tuple (show s1.heap.IsTuple a its.toArray from p) ?_
    refine ⟨s1.heap.objs.size, [s1.heap.objs.size], _, _, H1, rfl, I1.kept (t' := s1.toks) fun b o e => Heap.get?_push_of_some _ e, turn_tuple a _, ⟨_, Heap.get?_push_size _ rfl, rfl, rfl⟩, fun b hb => ?_, q⟩
    have e : b = s1.heap.objs.size := by simpa using hb
    subst e
    exact I1.fpOk (Nat.le_refl _) (I1.hok.fresh (Nat.le_refl _))
theorem gOf_ok {S S' : Sto} {d : D} {k : Bool} {es : List D} (e : asSeq S d = some (k, es)) (g : gok (gOf d es) S') : asSeq S' d = some (k, es) := by
  cases d with
  | ref i =>
    have h := g (i, es) (by simp [gOf])
    unfold cellL at h
    simp only [asSeq] at e ⊢
    split at h
    · rename_i ds q
      cases h
      rw [q]
      split at e <;> cases e
      rfl
    · cases h
  | _ => exact e
theorem walk_seq {Z0 : PZ} {H0 : Hp} {α0 : List Addr} {S0 : Sto} {d : D} {a : Addr} {k : Bool} {es : List D} (e : asSeq S0 d = some (k, es)) (r : Rep (T.wp Z0) H0 α0 d (.ref a)) :
    WalkOk (T.wp Z0) (if k = true then Itl T.K a else Itt T.K a) es (gOf d es) H0 α0 := by
  intro Z i H α S hi hz ex hr hk g
  have e' := gOf_ok e g
  obtain ⟨a', vs, ea, rl, sq⟩ := asSeq_ok hr (hk d _ r) e'
  cases ea
  have hl := rl.length
  cases k with
  | true =>
    have sq' : SqL T.K H a vs := by
      have q := sq
      rw [if_pos rfl] at q
      exact q
    refine ⟨fun hlt => ?_, fun he => ⟨vs, sq', by omega⟩⟩
    have hv : i < vs.length := by omega
    refine ⟨⟨vs, vs[i], sq', by simp [hv]⟩, fun x H' y => ?_⟩
    obtain ⟨rfl, y⟩ := y
    obtain ⟨d', e1, e2⟩ := rl.get' (y vs sq')
    exact ⟨d', e1, Ext.refl _ _, hr, e2⟩
  | false =>
    have sq' : SqT T.K H a vs := by
      have q := sq
      rw [if_neg (by decide)] at q
      exact q
    refine ⟨fun hlt => ?_, fun he => ⟨vs, sq', by omega⟩⟩
    have hv : i < vs.length := by omega
    refine ⟨⟨vs, vs[i], sq', by simp [hv]⟩, fun x H' y => ?_⟩
    obtain ⟨rfl, y⟩ := y
    obtain ⟨d', e1, e2⟩ := rl.get' (y vs sq')
    exact ⟨d', e1, Ext.refl _ _, hr, e2⟩
theorem rngD_get {lo : Int} {n i : Nat} (h : i < n) : (rngD lo n)[i]? = some (.int (lo + i)) := by
  unfold rngD
  simp [h]
theorem walk_range {Z0 : PZ} {H0 : Hp} {α0 : List Addr} (lo : Int) (n : Nat) : WalkOk (T.wp Z0) (Itr lo n) (rngD lo n) [] H0 α0 := by
  intro Z i H α S hi hz ex hr hk g
  have hl : (rngD lo n).length = n := by simp [rngD]
  rw [hl] at hi ⊢
  refine ⟨fun hlt => ⟨hlt, fun x H' y => ?_⟩, fun he => Nat.le_of_eq he.symm⟩
  obtain ⟨rfl, rfl⟩ := y
  exact ⟨_, rngD_get hlt, Ext.refl _ _, hr, rfl⟩
theorem walk_zip {Z0 : PZ} {H0 : Hp} {α0 : List Addr} {S0 : Sto} {d1 d2 : D} {a b : Addr} {k : Bool} {xs ys : List D} (e1 : asSeq S0 d1 = some (k, xs)) (e2 : asSeq S0 d2 = some (k, ys)) (r1 : Rep (T.wp Z0) H0 α0 d1 (.ref a)) (r2 : Rep (T.wp Z0) H0 α0 d2 (.ref b)) :
    WalkOk (T.wp Z0) (if k = true then Itz T.K a b else RZ.ItzT T.K a b) ((xs.zip ys).map fun p => .tup [p.1, p.2]) (gOf d1 xs ++ gOf d2 ys) H0 α0 := by
  intro Z i H α S hi hz ex hr hk g
  have g1 : gok (gOf d1 xs) S := fun p hp => g p (List.mem_append_left _ hp)
  have g2 : gok (gOf d2 ys) S := fun p hp => g p (List.mem_append_right _ hp)
  obtain ⟨a', vs, ea, rl, sq⟩ := asSeq_ok hr (hk d1 _ r1) (gOf_ok e1 g1)
  cases ea
  obtain ⟨b', ws, eb, rl2, sq2⟩ := asSeq_ok hr (hk d2 _ r2) (gOf_ok e2 g2)
  cases eb
  have hl := rl.length
  have hl2 := rl2.length
  have hz : ((xs.zip ys).map fun p => D.tup [p.1, p.2]).length = min xs.length ys.length := by simp
  rw [hz] at hi ⊢
  have fin : ∀ {x H'}, i < min xs.length ys.length → (∃ (Tt : Addr) (x1 y1 : V), x = V.ref Tt ∧ H Tt = none ∧ H' = upd H Tt (.tup [x1, y1]) ∧ vs[i]? = some x1 ∧ ws[i]? = some y1) → ∃ d, ((xs.zip ys).map fun p => D.tup [p.1, p.2])[i]? = some d ∧ Ext H α H' α ∧ HR (T.wp Z) H' α S ∧ Rep (T.wp Z) H' α d x := by
    rintro x H' hlt ⟨Tt, x1, y1, rfl, hT, rfl, ex1, ey1⟩
    obtain ⟨dx, q1, q2⟩ := rl.get' ex1
    obtain ⟨dy, q3, q4⟩ := rl2.get' ey1
    have e := Ext.laid hr hT (.tup [x1, y1])
    have ezz : (xs.zip ys)[i]? = some (dx, dy) := List.getElem?_zip_eq_some.mpr ⟨q1, q3⟩
    refine ⟨.tup [dx, dy], by rw [List.getElem?_map, ezz]; rfl, e, hr.laid hT _, Tt, [x1, y1], rfl, ⟨upd_same, hr.fresh hT⟩, x1, [y1], rfl, q2.ext e, y1, [], rfl, q4.ext e, rfl⟩
  cases k with
  | true =>
    have s1 : SqL T.K H a vs := by
      have q := sq
      rw [if_pos rfl] at q
      exact q
    have s2 : SqL T.K H b ws := by
      have q := sq2
      rw [if_pos rfl] at q
      exact q
    refine ⟨fun hlt => ?_, fun he => ⟨vs, ws, s1, s2, by omega⟩⟩
    have h1 : i < vs.length := by omega
    have h2 : i < ws.length := by omega
    refine ⟨⟨vs, ws, vs[i], ws[i], s1, s2, by simp [h1], by simp [h2]⟩, fun x H' y => ?_⟩
    obtain ⟨Tt, x1, y1, ex1, hT, eH, y1', y2'⟩ := y
    exact fin hlt ⟨Tt, x1, y1, ex1, hT, eH, y1' vs s1, y2' ws s2⟩
  | false =>
    have s1 : SqT T.K H a vs := by
      have q := sq
      rw [if_neg (by decide)] at q
      exact q
    have s2 : SqT T.K H b ws := by
      have q := sq2
      rw [if_neg (by decide)] at q
      exact q
    refine ⟨fun hlt => ?_, fun he => ⟨vs, ws, s1, s2, by omega⟩⟩
    have h1 : i < vs.length := by omega
    have h2 : i < ws.length := by omega
    refine ⟨⟨vs, ws, vs[i], ws[i], s1, s2, by simp [h1], by simp [h2]⟩, fun x H' y => ?_⟩
    obtain ⟨Tt, x1, y1, ex1, hT, eH, y1', y2'⟩ := y
    exact fin hlt ⟨Tt, x1, y1, ex1, hT, eH, y1' vs s1, y2' ws s2⟩

theorem RepKV.back {κ : Type} {H : Hp} {α : List Addr} : ∀ {kvs : List (κ × D)} {ws : List (κ × V)} {i : Nat} {k : κ} {v : V}, RepKV T H α kvs ws → ws[i]? = some (k, v) → ∃ d, kvs[i]? = some (k, d) ∧ Rep T H α d v
  | [], _, _, _, _, r, e => by cases r; simp at e
  | kd :: _, _, 0, _, _, r, e => by
    obtain ⟨v, ws, rfl, h1, h2⟩ := r
    simp at e
    obtain ⟨rfl, rfl⟩ := e
    exact ⟨kd.2, rfl, h1⟩
  | _ :: _, _, i + 1, _, _, r, e => by
    obtain ⟨v, ws, rfl, h1, h2⟩ := r
    obtain ⟨w, e1, e2⟩ := RepKV.back (i := i) h2 (by simpa using e)
    exact ⟨w, by simpa using e1, e2⟩
theorem rep_keyD {H : Hp} {α : List Addr} (k : Key) : Rep T H α (keyD k) (kV k) := by cases k <;> rfl
theorem walk_keysK {Z0 : PZ} {H0 : Hp} {α0 : List Addr} {a : Addr} {o : Obj} {kvs : List (Key × D)} {ws : List (Key × V)} (hz : (a, some (.frz o (.dK ws))) ∈ Z0) (r : RepKV (T.wp Z0) H0 α0 kvs ws) :
    WalkOk (T.wp Z0) (Itk a o ws) (kvs.map fun kv => keyD kv.1) [] H0 α0 := by
  intro Z i H α S hi hz' ex hr hk g
  have hl := r.length
  have hH := (hr.lck a _ (hz' _ hz)).1
  simp only [List.length_map] at hi ⊢
  refine ⟨fun hlt => ⟨⟨hH, by omega⟩, fun x H' y => ?_⟩, fun he => ⟨hH, by omega⟩⟩
  obtain ⟨rfl, k, v, e1, rfl⟩ := y
  obtain ⟨d, e2, _⟩ := r.back e1
  exact ⟨keyD k, by rw [List.getElem?_map, e2]; rfl, Ext.refl _ _, hr, rep_keyD k⟩
theorem walk_keysT {Z0 : PZ} {H0 : Hp} {α0 : List Addr} {a : Addr} {o : Obj} {kvs : List (List Key × D)} {ws : List (List Key × V)} (hz : (a, some (.frz o (.dT ws))) ∈ Z0) (r : RepKV (T.wp Z0) H0 α0 kvs ws) :
    WalkOk (T.wp Z0) (Itkt a o ws) (kvs.map fun kv => .tup (kv.1.map keyD)) [] H0 α0 := by
  intro Z i H α S hi hz' ex hr hk g
  have hl := r.length
  have hH := (hr.lck a _ (hz' _ hz)).1
  simp only [List.length_map] at hi ⊢
  refine ⟨fun hlt => ⟨⟨hH, by omega⟩, fun x H' y => ?_⟩, fun he => ⟨hH, by omega⟩⟩
  obtain ⟨rfl, k, v, q, e1, rfl, hq⟩ := y
  obtain ⟨d, e2, _⟩ := r.back e1
  exact ⟨.tup (k.map keyD), by rw [List.getElem?_map, e2]; rfl, Ext.refl _ _, hr, q, _, rfl, ⟨hq, hr.noTup hq⟩, rep_keys k⟩
theorem walk_vals {Z0 : PZ} {H0 : Hp} {α0 : List Addr} {a : Addr} {o : Obj} {kvs : List (Key × D)} {ws : List (Key × V)} (hz : (a, some (.frz o (.dK ws))) ∈ Z0) (r : RepKV (T.wp Z0) H0 α0 kvs ws) :
    WalkOk (T.wp Z0) (Itd a o ws) (kvs.map fun kv => kv.2) [] H0 α0 := by
  intro Z i H α S hi hz' ex hr hk g
  have hl := r.length
  have hH := (hr.lck a _ (hz' _ hz)).1
  simp only [List.length_map] at hi ⊢
  refine ⟨fun hlt => ⟨⟨hH, by omega⟩, fun x H' y => ?_⟩, fun he => ⟨hH, by omega⟩⟩
  obtain ⟨rfl, k, e1⟩ := y
  obtain ⟨d, e2, rd⟩ := r.back e1
  exact ⟨d, by rw [List.getElem?_map, e2]; rfl, Ext.refl _ _, hr, hk d _ rd⟩

/-! ### targets -/
def gNames : List Nat → TGs
  | [] => gNil
  | i :: is => gCons (gName i) (gNames is)
def gNames2 (K : PySem.W.Frag) : List (Nat ⊕ List Nat) → TGs
  | [] => gNil
  | .inl i :: ps => gCons (gName i) (gNames2 K ps)
  | .inr is :: ps => gCons (gTup K is.length (gNames is)) (gNames2 K ps)
def gPat (K : PySem.W.Frag) : Pat → TG
  | .nm i => gName i
  | .tp is => gTup K is.length (gNames is)
  | .tl is => gLst K is.length (gNames is)
  | .tn ps => gTup K ps.length (gNames2 K ps)
/-- the names' part of what a context is known of -/
structure GoodN (T : TW) (c : Ctx) (X : Cx) : Prop where
  N : X.N = c.N
  nd : c.N.Nodup
  sc : X.env.scope = c.sc
  fnl : X.fn = c.fnl
  K : X.K = T.K
  calm : X.calm = true
theorem Good.toN (g : Good T cf c X W) : GoodN T c X := ⟨g.N, g.nd, g.sc, g.fnl, g.K, g.calm⟩
theorem name_ok (N : X.N = c.N) (nd : c.N.Nodup) (sc : X.env.scope = c.sc) (fnl : X.fn = c.fnl) {i : Nat} {x : Str} {pos : Pos} (h : c.bindable i x = true) : PG X (.Name x pos) (gName i) := by
  unfold Ctx.bindable at h
  simp only [Bool.and_eq_true, decide_eq_true_eq] at h
  refine pg_name (by rw [N]; exact nd) (by rw [N]; exact h.1) ?_ ?_
  · unfold L2.Loc
    rw [sc]
    have h2 := h.2
    split at h2
    · exact .inl (by assumption)
    · exact .inr (by assumption)
    · cases h2
  · rw [sc, fnl]
    have h2 := h.2
    split at h2
    · exact .inr (by assumption)
    · exact .inl h2
    · cases h2
theorem GoodN.name (g : GoodN T c X) {i : Nat} {x : Str} {pos : Pos} (h : c.bindable i x = true) : PG X (.Name x pos) (gName i) := name_ok g.N g.nd g.sc g.fnl h
theorem namesOk_len {c : Ctx} : ∀ {is : List Nat} {es : List Expr}, namesOk c is es = true → is.length = es.length ∧ ∀ {env : PySem.Env}, (assignEach es env).length = es.length ∧ (assignEach es env).findIdx? (·.1) = none
  | [], [], _ => ⟨rfl, rfl, rfl⟩
  | i :: is, .Name x p :: es, h => by
    unfold namesOk at h
    simp only [Bool.and_eq_true] at h
    obtain ⟨h1, h2⟩ := namesOk_len h.2
    refine ⟨by simp [h1], fun {env} => ⟨?_, ?_⟩⟩
    · show (assignEach es env).length + 1 = es.length + 1
      rw [(h2 (env := env)).1]
    · show List.findIdx? (·.1) ((false, assign (.Name x p) env) :: assignEach es env) = none
      rw [List.findIdx?_cons]
      simp [(h2 (env := env)).2]
  | [], _ :: _, h => by cases h
  | _ :: _, [], h => by cases h
  | _ :: _, e :: es, h => by
    cases e <;> first | (exfalso; exact absurd (show false = true from h) Bool.false_ne_true) | skip
    rename_i i is x p
    unfold namesOk at h
    simp only [Bool.and_eq_true] at h
    obtain ⟨h1, h2⟩ := namesOk_len h.2
    refine ⟨by simp [h1], fun {env} => ⟨?_, ?_⟩⟩
    · show (assignEach es env).length + 1 = es.length + 1
      rw [(h2 (env := env)).1]
    · show List.findIdx? (·.1) ((false, assign (.Name x p) env) :: assignEach es env) = none
      rw [List.findIdx?_cons]
      simp [(h2 (env := env)).2]
theorem GoodN.names (g : GoodN T c X) : ∀ {is : List Nat} {es : List Expr}, namesOk c is es = true → PGs X es (gNames is)
  | [], [], _ => pgs_nil
  | [], _ :: _, h => by cases h
  | _ :: _, [], h => by cases h
  | i :: is, e :: es, h => by
    cases e <;> first | (exfalso; exact absurd (show false = true from h) Bool.false_ne_true) | skip
    unfold namesOk at h
    simp only [Bool.and_eq_true] at h
    exact pgs_cons (g.name h.1) (g.names h.2) rfl
theorem names2_len {c : Ctx} : ∀ {ps : List (Nat ⊕ List Nat)} {es : List Expr}, names2Ok c ps es = true → ps.length = es.length ∧ ∀ {env : PySem.Env}, (assignEach es env).length = es.length ∧ (assignEach es env).findIdx? (·.1) = none
  | [], [], _ => ⟨rfl, rfl, rfl⟩
  | [], _ :: _, h => by cases h
  | p :: _, [], h => by cases p <;> cases h
  | .inl i :: ps, e :: es, h => by
    cases e <;> first | (exfalso; exact absurd (show false = true from h) Bool.false_ne_true) | skip
    rename_i x p
    unfold names2Ok at h
    simp only [Bool.and_eq_true] at h
    obtain ⟨h1, h2⟩ := names2_len h.2
    refine ⟨by simp [h1], fun {env} => ⟨?_, ?_⟩⟩
    · show (assignEach es env).length + 1 = es.length + 1
      rw [(h2 (env := env)).1]
    · show List.findIdx? (·.1) ((false, assign (.Name x p) env) :: assignEach es env) = none
      rw [List.findIdx?_cons]
      simp [(h2 (env := env)).2]
  | .inr is :: ps, e :: es, h => by
    cases e <;> first | (exfalso; exact absurd (show false = true from h) Bool.false_ne_true) | skip
    rename_i xs k p
    unfold names2Ok at h
    simp only [Bool.and_eq_true] at h
    obtain ⟨h1, h2⟩ := names2_len h.2
    refine ⟨by simp [h1], fun {env} => ⟨?_, ?_⟩⟩
    · show (assignEach es env).length + 1 = es.length + 1
      rw [(h2 (env := env)).1]
    · show List.findIdx? (·.1) ((false, assign (.Tuple xs k p) env) :: assignEach es env) = none
      rw [List.findIdx?_cons]
      simp [(h2 (env := env)).2]
theorem GoodN.tupN (g : GoodN T c X) {is : List Nat} {es : List Expr} {k} {pos : Pos} (h : namesOk c is es = true) : PG X (.Tuple es k pos) (gTup T.K is.length (gNames is)) := by
  obtain ⟨h1, h2⟩ := namesOk_len h
  have := pg_tup (X := X) (n := is.length) (k := k) (pos := pos) g.calm (g.names h) (by rw [h1]; exact h2.1) h2.2
  rw [g.K] at this
  exact this
theorem GoodN.names2 (g : GoodN T c X) : ∀ {ps : List (Nat ⊕ List Nat)} {es : List Expr}, names2Ok c ps es = true → PGs X es (gNames2 T.K ps)
  | [], [], _ => pgs_nil
  | [], _ :: _, h => by cases h
  | p :: _, [], h => by cases p <;> cases h
  | .inl i :: ps, e :: es, h => by
    cases e <;> first | (exfalso; exact absurd (show false = true from h) Bool.false_ne_true) | skip
    unfold names2Ok at h
    simp only [Bool.and_eq_true] at h
    exact pgs_cons (g.name h.1) (g.names2 h.2) rfl
  | .inr is :: ps, e :: es, h => by
    cases e <;> first | (exfalso; exact absurd (show false = true from h) Bool.false_ne_true) | skip
    unfold names2Ok at h
    simp only [Bool.and_eq_true] at h
    exact pgs_cons (g.tupN h.1) (g.names2 h.2) rfl
theorem GoodN.pat (g : GoodN T c X) {p : Pat} {e : Expr} (h : chkP c p e = true) : PG X e (gPat T.K p) := by
  cases p with
  | nm i =>
    cases e <;> first | (exfalso; exact absurd (show false = true from h) Bool.false_ne_true) | skip
    exact g.name h
  | tp is =>
    cases e <;> first | (exfalso; exact absurd (show false = true from h) Bool.false_ne_true) | skip
    rename_i es k pos
    obtain ⟨h1, h2⟩ := namesOk_len (show namesOk c is es = true from h)
    have := pg_tup (X := X) (n := is.length) (k := k) (pos := pos) g.calm (g.names (show namesOk c is _ = true from h)) (by rw [h1]; exact h2.1) h2.2
    rw [g.K] at this
    exact this
  | tl is =>
    cases e <;> first | (exfalso; exact absurd (show false = true from h) Bool.false_ne_true) | skip
    rename_i es k pos
    obtain ⟨h1, h2⟩ := namesOk_len (show namesOk c is es = true from h)
    have := pg_lst (X := X) (n := is.length) (k := k) (pos := pos) g.calm (g.names (show namesOk c is _ = true from h)) (by rw [h1]; exact h2.1) h2.2
    rw [g.K] at this
    exact this
  | tn ps =>
    cases e <;> first | (exfalso; exact absurd (show false = true from h) Bool.false_ne_true) | skip
    rename_i es k pos
    obtain ⟨h1, h2⟩ := names2_len (show names2Ok c ps es = true from h)
    have := pg_tup (X := X) (n := ps.length) (k := k) (pos := pos) g.calm (g.names2 (show names2Ok c ps _ = true from h)) (by rw [h1]; exact h2.1) h2.2
    rw [g.K] at this
    exact this
theorem wipe_set {σ : L2.St} {i : Nat} {v : Option V} : ∀ {own : List Nat}, i ∈ own → wipe (σ.set i v) own = wipe σ own
  | [], h => by cases h
  | j :: own, h => by
    show (wipe (σ.set i v) own).set j none = (wipe σ own).set j none
    by_cases hj : i ∈ own
    · rw [wipe_set hj]
    · have e : i = j := by
        rcases List.mem_cons.mp h with e | h
        · exact e
        · exact absurd h hj
      subst e
      apply List.ext_getElem?
      intro k
      by_cases hk : i = k
      · subst hk
        by_cases hl : i < σ.length
        · rw [List.getElem?_set_self (by rw [wipe_length]; simpa using hl), List.getElem?_set_self (by rw [wipe_length]; exact hl)]
        · rw [List.getElem?_eq_none (by simp [wipe_length]; omega), List.getElem?_eq_none (by simp [wipe_length]; omega)]
      · rw [List.getElem?_set_ne hk, List.getElem?_set_ne hk]
        clear h hj
        induction own with
        | nil => exact List.getElem?_set_ne hk
        | cons j own ih =>
          show ((wipe (σ.set i v) own).set j none)[k]? = ((wipe σ own).set j none)[k]?
          by_cases hjk : j = k
          · subst hjk
            by_cases hl : j < σ.length
            · rw [List.getElem?_set_self (by rw [wipe_length]; simpa using hl), List.getElem?_set_self (by rw [wipe_length]; exact hl)]
            · rw [List.getElem?_eq_none (by simp [wipe_length]; omega), List.getElem?_eq_none (by simp [wipe_length]; omega)]
          · rw [List.getElem?_set_ne hjk, List.getElem?_set_ne hjk]
            exact ih
theorem setAll_ok {H : Hp} {α : List Addr} : ∀ {is : List Nat} {ds : List D} {vs : List V} {ρ ρ' : NT.Env} {σ : L2.St}, setAll is ds ρ = some ρ' → RepL T H α ds vs → RepE T H α ρ σ →
    ds.length = is.length ∧ ∃ σ', RepE T H α ρ' σ' ∧ (∀ Q : L2.St → Hp → Prop, Q σ' H → gNames is vs σ H Q) ∧ ∀ own : List Nat, (∀ i ∈ is, i ∈ own) → wipe σ' own = wipe σ own
  | [], [], _, ρ, ρ', σ, e, rl, re => by
    cases e; cases rl
    exact ⟨rfl, σ, re, fun Q q => ⟨rfl, q⟩, fun _ _ => rfl⟩
  | i :: is, d :: ds, _, ρ, ρ', σ, e, rl, re => by
    obtain ⟨v, vs, rfl, h1, h2⟩ := rl
    obtain ⟨hl, σ', h3, h4, h5⟩ := setAll_ok (is := is) e h2 (re.set i h1)
    refine ⟨by simp [hl], σ', h3, fun Q q => ⟨v, vs, rfl, h4 Q q⟩, fun own ho => ?_⟩
    rw [h5 own fun j hj => ho j (List.mem_cons_of_mem _ hj), wipe_set (ho i List.mem_cons_self)]
  | [], _ :: _, _, _, _, _, e, _, _ => by cases e
  | _ :: _, [], _, _, _, _, e, _, _ => by cases e
theorem set2_ok {H : Hp} {α : List Addr} : ∀ {ps : List (Nat ⊕ List Nat)} {ds : List D} {vs : List V} {ρ ρ' : NT.Env} {σ : L2.St}, set2 ps ds ρ = some ρ' → RepL T H α ds vs → RepE T H α ρ σ →
    ds.length = ps.length ∧ ∃ σ', RepE T H α ρ' σ' ∧ (∀ Q : L2.St → Hp → Prop, Q σ' H → gNames2 T.K ps vs σ H Q) ∧ ∀ own : List Nat, (∀ p ∈ ps, match p with | .inl i => i ∈ own | .inr is => ∀ i ∈ is, i ∈ own) → wipe σ' own = wipe σ own
  | [], [], _, ρ, ρ', σ, e, rl, re => by
    cases e; cases rl
    exact ⟨rfl, σ, re, fun Q q => ⟨rfl, q⟩, fun _ _ => rfl⟩
  | .inl i :: ps, d :: ds, _, ρ, ρ', σ, e, rl, re => by
    obtain ⟨v, vs, rfl, h1, h2⟩ := rl
    obtain ⟨hl, σ', h3, h4, h5⟩ := set2_ok (ps := ps) (show set2 ps ds (ρ.set i (some d)) = some ρ' from e) h2 (re.set i h1)
    refine ⟨by simp [hl], σ', h3, fun Q q => ⟨v, vs, rfl, h4 Q q⟩, fun own ho => ?_⟩
    rw [h5 own fun j hj => ho j (List.mem_cons_of_mem _ hj), wipe_set (ho (.inl i) List.mem_cons_self)]
  | .inr is :: ps, d :: ds, _, ρ, ρ', σ, e, rl, re => by
    obtain ⟨v, vs, rfl, h1, h2⟩ := rl
    have go : ∀ {es : List D}, (∃ a us, v = .ref a ∧ SqT T.K H a us ∧ RepL T H α es us) → (setAll is es ρ).bind (set2 ps ds) = some ρ' → (d :: ds).length = (Sum.inr is :: ps).length ∧ ∃ σ', RepE T H α ρ' σ' ∧ (∀ Q : L2.St → Hp → Prop, Q σ' H → gNames2 T.K (.inr is :: ps) (v :: vs) σ H Q) ∧ ∀ own : List Nat, (∀ p ∈ (Sum.inr is :: ps : List (Nat ⊕ List Nat)), match p with | .inl i => i ∈ own | .inr is => ∀ i ∈ is, i ∈ own) → wipe σ' own = wipe σ own := by
      rintro es ⟨a, us, rfl, sq, ru⟩ e
      obtain ⟨ρ1, e1, e2⟩ := Option.bind_eq_some_iff.mp e
      obtain ⟨hl1, σ1, g3, g4, g5⟩ := setAll_ok e1 ru re
      obtain ⟨hl, σ', h3, h4, h5⟩ := set2_ok e2 h2 g3
      refine ⟨by simp [hl], σ', h3, fun Q q => ⟨.ref a, vs, rfl, a, us, rfl, sq, by rw [← ru.length]; exact hl1, g4 _ (h4 Q q)⟩, fun own ho => ?_⟩
      rw [h5 own fun j hj => ho j (List.mem_cons_of_mem _ hj), g5 own (ho (.inr is) List.mem_cons_self)]
    cases d with
    | tup es =>
      obtain ⟨a, us, rfl, l, ru⟩ := h1
      exact go ⟨a, us, rfl, l.sq, ru⟩ e
    | wt es =>
      obtain ⟨a, us, rfl, l, ru⟩ := h1
      exact go ⟨a, us, rfl, l.sq, ru⟩ e
    | _ => cases e
  | [], _ :: _, _, _, _, _, e, _, _ => by cases e
  | p :: _, [], _, _, _, _, e, _, _ => by cases p <;> cases e
def Pat.ins : Pat → List Nat → Bool
  | .nm i, own => decide (i ∈ own)
  | .tp is, own => is.all fun i => decide (i ∈ own)
  | .tl is, own => is.all fun i => decide (i ∈ own)
  | .tn ps, own => ps.all fun p => match p with | .inl i => decide (i ∈ own) | .inr is => is.all fun i => decide (i ∈ own)
theorem bnd_ok {H : Hp} {α : List Addr} {p : Pat} {d : D} {v : V} {ρ ρ' : NT.Env} {σ : L2.St} (e : p.bnd d ρ = some ρ') (r : Rep T H α d v) (re : RepE T H α ρ σ) :
    ∃ σ', RepE T H α ρ' σ' ∧ (∀ Q : L2.St → Hp → Prop, Q σ' H → gPat T.K p v σ H Q) ∧ ∀ own : List Nat, p.ins own = true → wipe σ' own = wipe σ own := by
  cases p with
  | nm i =>
    cases e
    exact ⟨_, re.set i r, fun Q q => q, fun own ho => wipe_set (by simpa [Pat.ins] using ho)⟩
  | tp is =>
    have go : ∀ {ds : List D}, (∃ a vs, v = .ref a ∧ SqT T.K H a vs ∧ RepL T H α ds vs) → setAll is ds ρ = some ρ' → ∃ σ', RepE T H α ρ' σ' ∧ (∀ Q : L2.St → Hp → Prop, Q σ' H → gPat T.K (.tp is) v σ H Q) ∧ ∀ own : List Nat, (Pat.tp is).ins own = true → wipe σ' own = wipe σ own := by
      rintro ds ⟨a, vs, rfl, sq, rl⟩ e
      obtain ⟨hl, σ', h3, h4, h5⟩ := setAll_ok e rl re
      refine ⟨σ', h3, fun Q q => ⟨a, vs, rfl, sq, by rw [← rl.length]; exact hl, h4 Q q⟩, fun own ho => h5 own ?_⟩
      simpa [Pat.ins] using ho
    simp only [Pat.bnd] at e
    split at e
    · obtain ⟨a, vs, rfl, l, rl⟩ := r
      exact go ⟨a, vs, rfl, l.sq, rl⟩ e
    · obtain ⟨a, vs, rfl, l, rl⟩ := r
      exact go ⟨a, vs, rfl, l.sq, rl⟩ e
    · cases e
  | tl is =>
    have go : ∀ {ds : List D}, (∃ a vs, v = .ref a ∧ SqL T.K H a vs ∧ RepL T H α ds vs) → setAll is ds ρ = some ρ' → ∃ σ', RepE T H α ρ' σ' ∧ (∀ Q : L2.St → Hp → Prop, Q σ' H → gPat T.K (.tl is) v σ H Q) ∧ ∀ own : List Nat, (Pat.tl is).ins own = true → wipe σ' own = wipe σ own := by
      rintro ds ⟨a, vs, rfl, sq, rl⟩ e
      obtain ⟨hl, σ', h3, h4, h5⟩ := setAll_ok e rl re
      refine ⟨σ', h3, fun Q q => ⟨a, vs, rfl, sq, by rw [← rl.length]; exact hl, h4 Q q⟩, fun own ho => h5 own ?_⟩
      simpa [Pat.ins] using ho
    simp only [Pat.bnd] at e
    split at e
    · obtain ⟨a, vs, rfl, l, rl⟩ := r
      exact go ⟨a, vs, rfl, l.sq, rl⟩ e
    · obtain ⟨a, vs, rfl, l, rl⟩ := r
      exact go ⟨a, vs, rfl, l.sq, rl⟩ e
    · cases e
  | tn ps =>
    have go : ∀ {ds : List D}, (∃ a vs, v = .ref a ∧ SqT T.K H a vs ∧ RepL T H α ds vs) → set2 ps ds ρ = some ρ' → ∃ σ', RepE T H α ρ' σ' ∧ (∀ Q : L2.St → Hp → Prop, Q σ' H → gPat T.K (.tn ps) v σ H Q) ∧ ∀ own : List Nat, (Pat.tn ps).ins own = true → wipe σ' own = wipe σ own := by
      rintro ds ⟨a, vs, rfl, sq, rl⟩ e
      obtain ⟨hl, σ', h3, h4, h5⟩ := set2_ok e rl re
      refine ⟨σ', h3, fun Q q => ⟨a, vs, rfl, sq, by rw [← rl.length]; exact hl, h4 Q q⟩, fun own ho => h5 own fun p hp => ?_⟩
      have := (List.all_eq_true.mp ho) p hp
      cases p with
      | inl i => simpa using this
      | inr is => simpa using this
    simp only [Pat.bnd] at e
    split at e
    · obtain ⟨a, vs, rfl, l, rl⟩ := r
      exact go ⟨a, vs, rfl, l.sq, rl⟩ e
    · obtain ⟨a, vs, rfl, l, rl⟩ := r
      exact go ⟨a, vs, rfl, l.sq, rl⟩ e
    · cases e
theorem RepE.unset {H : Hp} {α : List Addr} {ρ : NT.Env} {σ : L2.St} (re : RepE T H α ρ σ) (i : Nat) : RepE T H α (ρ.set i none) (σ.set i none) := by
  refine ⟨by simp [re.1], fun j d e => ?_⟩
  by_cases hj : i = j
  · subst hj
    by_cases hl : i < ρ.length
    · rw [List.getElem?_set_self hl] at e; cases e
    · rw [List.getElem?_eq_none (by simpa using hl)] at e; cases e
  · rw [List.getElem?_set_ne hj] at e
    obtain ⟨v, e1, e2⟩ := re.2 j d e
    exact ⟨v, by rw [List.getElem?_set_ne hj]; exact e1, e2⟩
theorem RepE.wipe {H : Hp} {α : List Addr} {ρ : NT.Env} {σ : L2.St} (re : RepE T H α ρ σ) : ∀ own : List Nat, RepE T H α (wipeD ρ own) (L2.wipe σ own)
  | [] => re
  | j :: own => (RepE.wipe re own).unset j
end
end NT
/-! what stands for a value, carried to another heap; comprehensions -/
namespace NT
open PySem L2
section
variable {T T' : TW} {H H' : Hp} {α α' : List Addr}
structure Tr (T T' : TW) (H H' : Hp) (α α' : List Addr) : Prop where
  K : T'.K = T.K
  fa : T'.fa = T.fa
  ca : T'.ca = T.ca
  priv : ∀ a, T.pz.prv a → ∃ xs, H a = some (.lst xs)
  keep : ∀ a o, H a = some o → a ∉ α → ¬ T.pz.prv a → H' a = some o ∧ a ∉ α' ∧ ¬ T'.pz.prv a
  ix : ∀ (i : Nat) a, α[i]? = some a → α'[i]? = some a
theorem Tr.notZ (t : Tr T T' H H' α α') {a : Addr} {o : HO} (h : H a = some o) (n : ∀ xs, o ≠ .lst xs) : ¬ T.pz.prv a := fun z => by
  obtain ⟨xs, e⟩ := t.priv a z
  rw [h] at e
  exact n xs (Option.some.inj e)
mutual
theorem Rep.tr (t : Tr T T' H H' α α') : ∀ {d : D} {v : V}, Rep T H α d v → Rep T' H' α' d v
  | .non, _, h => h
  | .bl _, _, h => h
  | .int _, _, h => h
  | .str _, _, h => h
  | .tup ds, _, h => by
    obtain ⟨a, vs, e1, h1, h2⟩ := h
    obtain ⟨k1, k2, k3⟩ := t.keep a _ h1.1 h1.2 (t.notZ h1.1 fun _ z => nomatch z)
    exact ⟨a, vs, e1, ⟨k1, k2⟩, RepL.tr t h2⟩
  | .pt ds, _, h => by
    obtain ⟨a, vs, e1, ⟨o, q1, q2, q3⟩, h2⟩ := h
    obtain ⟨k1, k2, k3⟩ := t.keep a _ q1 q3 (t.notZ q1 fun _ z => nomatch z)
    exact ⟨a, vs, e1, ⟨o, k1, q2, k2⟩, RepL.tr t h2⟩
  | .lst ds, _, h => by
    obtain ⟨a, vs, e1, h1, h2⟩ := h
    obtain ⟨k1, k2, k3⟩ := t.keep a _ h1.1 h1.2.1 h1.2.2
    exact ⟨a, vs, e1, ⟨k1, k2, k3⟩, RepL.tr t h2⟩
  | .wt ds, _, h => by
    obtain ⟨a, vs, e1, h1, h2⟩ := h
    refine ⟨a, vs, e1, ?_, RepL.tr t h2⟩
    rcases h1 with ⟨h1 | ⟨o, h1⟩, n⟩ | h1
    · obtain ⟨k1, k2, k3⟩ := t.keep a _ h1 n (t.notZ h1 fun _ z => nomatch z)
      exact .inl ⟨.inl k1, k2⟩
    · obtain ⟨k1, k2, k3⟩ := t.keep a _ h1 n (t.notZ h1 fun _ z => nomatch z)
      exact .inl ⟨.inr ⟨o, k1⟩, k2⟩
    · rw [← t.K] at h1
      exact .inr h1
  | .wl ds, _, h => by
    obtain ⟨a, vs, e1, h1, h2⟩ := h
    refine ⟨a, vs, e1, ?_, RepL.tr t h2⟩
    rcases h1 with ⟨h1 | ⟨o, h1⟩, n, nz⟩ | h1
    · obtain ⟨k1, k2, k3⟩ := t.keep a _ h1 n nz
      exact .inl ⟨.inl k1, k2, k3⟩
    · obtain ⟨k1, k2, k3⟩ := t.keep a _ h1 n nz
      exact .inl ⟨.inr ⟨o, k1⟩, k2, k3⟩
    · rw [← t.K] at h1
      exact .inr h1
  | .ref i, _, h => by
    obtain ⟨a, e1, h1⟩ := h
    exact ⟨a, e1, t.ix _ _ h1⟩
  | .fn i, v, h => by
    show v = V.ref (T'.fa i)
    rw [t.fa]
    exact h
  | .ty _, _, h => h
theorem RepL.tr (t : Tr T T' H H' α α') : ∀ {ds : List D} {vs : List V}, RepL T H α ds vs → RepL T' H' α' ds vs
  | [], _, h => h
  | d :: ds, _, h => by
    obtain ⟨v, r, e1, h1, h2⟩ := h
    exact ⟨v, r, e1, Rep.tr t h1, RepL.tr t h2⟩
end
theorem RepKV.tr {κ : Type} (t : Tr T T' H H' α α') : ∀ {ks : List (κ × D)} {ws : List (κ × V)}, RepKV T H α ks ws → RepKV T' H' α' ks ws
  | [], _, h => h
  | _ :: _, _, h => by
    obtain ⟨v, r, rfl, h1, h2⟩ := h
    exact ⟨v, r, rfl, h1.tr t, RepKV.tr t h2⟩
theorem CRep.tr (t : Tr T T' H H' α α') : ∀ {c : Cell} {u : HO}, CRep T H α c u → CRep T' H' α' c u
  | .lst _, _, ⟨vs, h1, h2⟩ => ⟨vs, h1, h2.tr t⟩
  | .dK _, _, ⟨vs, h1, h2⟩ => ⟨vs, h1, h2.tr t⟩
  | .dT _, _, ⟨vs, h1, h2⟩ => ⟨vs, h1, h2.tr t⟩
  | .ins _ _, _, ⟨dx, vs, h1, h2⟩ => ⟨dx, vs, by rw [t.ca]; exact h1, h2.tr t⟩
  | .frz _, _, ⟨o, u, h1, h2⟩ => ⟨o, u, h1, h2.tr t⟩
theorem RepE.tr (t : Tr T T' H H' α α') {ρ : NT.Env} {σ : L2.St} (h : RepE T H α ρ σ) : RepE T' H' α' ρ σ :=
  ⟨h.1, fun i d q => by
    obtain ⟨v, e1, e2⟩ := h.2 i d q
    exact ⟨v, e1, e2.tr t⟩⟩
theorem HR.tr {S : Sto} (t : Tr T T' H H' α α) (h : HR T H α S) (k : ∀ a ∈ α, H' a = H a) (p : ∀ a, T'.pz.prv a → a ∉ α ∧ ∃ xs, H' a = some (.lst xs)) (l : ∀ a u, (a, some u) ∈ T'.pz → H' a = some u ∧ isFz u = true) (f : ∀ a u, (a, some u) ∈ T.pz → (a, some u) ∈ T'.pz) : HR T' H' α S :=
  ⟨h.len, h.nd, fun i c q => by
    obtain ⟨a, u, e1, e2, e3⟩ := h.cell i c q
    exact ⟨a, u, e1, by rw [k a (List.mem_of_getElem? e1)]; exact e2, e3.tr t⟩, p, l, fun i c q => by
    obtain ⟨a, u, e1, e2⟩ := h.fz i c q
    exact ⟨a, u, e1, f a u e2⟩⟩
/-- a list is begun -/
theorem Tr.begin {Z : PZ} {S : Sto} (h : HR (T.wp Z) H α S) {p : Addr} (hp : H p = none) (xs : List V) : Tr (T.wp Z) (T.wp ((p, none) :: Z)) H (upd H p (.lst xs)) α α :=
  ⟨rfl, rfl, rfl, fun a ha => (h.priv a ha).2, fun a o e n nz => by
    have ne : a ≠ p := ne_of_none e hp
    refine ⟨by rw [upd_ne ne]; exact e, n, ?_⟩
    intro z
    rcases List.mem_cons.mp z with z | z
    · exact ne (congrArg Prod.fst z)
    · exact nz z, fun _ _ e => e⟩
theorem HR.begin {Z : PZ} {S : Sto} (h : HR (T.wp Z) H α S) {p : Addr} (hp : H p = none) (xs : List V) : HR (T.wp ((p, none) :: Z)) (upd H p (.lst xs)) α S :=
  h.tr (Tr.begin h hp xs) (fun a ha => upd_ne (by rintro rfl; exact h.fresh hp ha)) (fun a ha => by
    rcases List.mem_cons.mp (show (a, none) ∈ (p, none) :: Z from ha) with e | ha
    · have e1 : a = p := congrArg Prod.fst e
      subst e1
      exact ⟨h.fresh hp, xs, upd_same⟩
    · obtain ⟨n, ys, e⟩ := h.priv a ha
      exact ⟨n, ys, by rw [upd_ne (ne_of_none e hp)]; exact e⟩) (fun a u q => by
    rcases List.mem_cons.mp (show (a, some u) ∈ (p, none) :: Z from q) with e | q
    · cases congrArg Prod.snd e
    · obtain ⟨e1, e2⟩ := h.lck a u q
      exact ⟨by rw [upd_ne (ne_of_none e1 hp)]; exact e1, e2⟩) fun a u q => List.mem_cons_of_mem _ q
/-- .. goes on -/
theorem Tr.touch {Z : PZ} {S : Sto} (h : HR (T.wp Z) H α S) {p : Addr} (hp : Z.prv p) (xs : List V) : Tr (T.wp Z) (T.wp Z) H (upd H p (.lst xs)) α α :=
  ⟨rfl, rfl, rfl, fun a ha => (h.priv a ha).2, fun a o e n nz => ⟨by rw [upd_ne (by rintro rfl; exact nz hp)]; exact e, n, nz⟩, fun _ _ e => e⟩
theorem HR.touch {Z : PZ} {S : Sto} (h : HR (T.wp Z) H α S) {p : Addr} (hp : Z.prv p) (xs : List V) : HR (T.wp Z) (upd H p (.lst xs)) α S :=
  h.tr (Tr.touch h hp xs) (fun a ha => upd_ne (by rintro rfl; exact (h.priv a hp).1 ha)) (fun a ha => by
    obtain ⟨n, ys, e⟩ := h.priv a ha
    by_cases ne : a = p
    · subst ne
      exact ⟨n, xs, upd_same⟩
    · exact ⟨n, ys, by rw [upd_ne ne]; exact e⟩) (fun a u q => by
    obtain ⟨e1, e2⟩ := h.lck a u q
    refine ⟨?_, e2⟩
    rw [upd_ne]
    · exact e1
    · rintro rfl
      obtain ⟨_, ys, e3⟩ := h.priv a hp
      rw [e1] at e3; cases e3
      cases e2) fun a u q => q
/-- .. ends -/
theorem Tr.end_ {Z : PZ} {S : Sto} {p : Addr × Option HO} (h : HR (T.wp (p :: Z)) H α S) : Tr (T.wp (p :: Z)) (T.wp Z) H H α α :=
  ⟨rfl, rfl, rfl, fun a ha => (h.priv a ha).2, fun a o e n nz => ⟨e, n, fun z => nz (List.mem_cons_of_mem _ z)⟩, fun _ _ e => e⟩
theorem HR.end_ {Z : PZ} {S : Sto} {p : Addr} (h : HR (T.wp ((p, none) :: Z)) H α S) : HR (T.wp Z) H α S :=
  h.tr (Tr.end_ h) (fun _ _ => rfl) (fun a ha => h.priv a (List.mem_cons_of_mem _ ha)) (fun a u q => h.lck a u (List.mem_cons_of_mem _ q)) fun a u q => by
    rcases List.mem_cons.mp (show (a, some u) ∈ (p, none) :: Z from q) with e | q
    · cases congrArg Prod.snd e
    · exact q
theorem Tr.ext {Z : PZ} {S : Sto} (h : HR (T.wp Z) H α S) (e : Ext H α H' α') : Tr (T.wp Z) (T.wp Z) H H' α α' :=
  ⟨rfl, rfl, rfl, fun a ha => (h.priv a ha).2, fun a o q n nz => ⟨e.keep a o q n, (fun z => by
    have q2 := e.new a z n
    rw [q] at q2; cases q2), nz⟩, fun _ _ q => e.get q⟩
/-- a cell is locked -/
theorem Tr.lock {Z : PZ} {S : Sto} (h : HR (T.wp Z) H α S) {a : Addr} (ha : a ∈ α) (u v : HO) : Tr (T.wp Z) (T.wp ((a, some v) :: Z)) H (upd H a u) α α :=
  ⟨rfl, rfl, rfl, fun b hb => (h.priv b hb).2, fun b o e n nz => ⟨by rw [upd_ne (by rintro rfl; exact n ha)]; exact e, n, fun z => by
    rcases List.mem_cons.mp z with z | z
    · cases congrArg Prod.snd z
    · exact nz z⟩, fun _ _ e => e⟩
theorem HR.lock {Z : PZ} {S : Sto} (h : HR (T.wp Z) H α S) {i : Nat} {a : Addr} {c : Cell} {u : HO} (hi : α[i]? = some a) (hs : S[i]? = some c) (hu : H a = some u) (hf : isFz u = false) (hc : CRep (T.wp Z) H α c u) (o : Obj) :
    HR (T.wp ((a, some (.frz o u)) :: Z)) (upd H a (.frz o u)) α (S.set i (.frz c)) ∧ ∀ u', (a, some u') ∉ Z := by
  have ha := List.mem_of_getElem? hi
  have hl : i < S.length := (List.getElem?_eq_some_iff.mp hs).1
  have t := Tr.lock h ha (.frz o u) (.frz o u)
  have hz : ∀ u', (a, some u') ∉ Z := fun u' z => by
    obtain ⟨e1, e2⟩ := h.lck a u' z
    rw [hu] at e1; cases e1
    rw [hf] at e2; cases e2
  have hne : ∀ j b, α[j]? = some b → i ≠ j → b ≠ a := fun j b e1 hj z => by
    apply hj; subst z
    obtain ⟨h1, h2⟩ := List.getElem?_eq_some_iff.mp hi
    obtain ⟨h3, h4⟩ := List.getElem?_eq_some_iff.mp e1
    exact (List.getElem_inj h.nd).mp (h2.trans h4.symm)
  refine ⟨⟨by simp [h.len], h.nd, fun j c' q => ?_, fun b hb => ?_, fun b u' q => ?_, fun j c' q => ?_⟩, hz⟩
  · by_cases hj : i = j
    · subst hj
      rw [List.getElem?_set_self hl] at q
      cases q
      exact ⟨a, _, hi, upd_same, o, u, rfl, hc.tr t⟩
    · rw [List.getElem?_set_ne hj] at q
      obtain ⟨b, u', e1, e2, e3⟩ := h.cell j c' q
      exact ⟨b, u', e1, by rw [upd_ne (hne j b e1 hj)]; exact e2, e3.tr t⟩
  · rcases List.mem_cons.mp (show (b, none) ∈ (a, some (HO.frz o u)) :: Z from hb) with e | hb
    · cases congrArg Prod.snd e
    · obtain ⟨n, xs, e⟩ := h.priv b hb
      exact ⟨n, xs, by rw [upd_ne (by rintro rfl; exact n ha)]; exact e⟩
  · rcases List.mem_cons.mp (show (b, some u') ∈ (a, some (HO.frz o u)) :: Z from q) with e | q2
    · have e1 : b = a := congrArg Prod.fst e
      have e2 : some u' = some (HO.frz o u) := congrArg Prod.snd e
      cases e2
      subst e1
      exact ⟨upd_same, rfl⟩
    · obtain ⟨e1, e2⟩ := h.lck b u' q2
      refine ⟨?_, e2⟩
      rw [upd_ne]
      · exact e1
      · rintro rfl
        exact hz _ q2
  · by_cases hj : i = j
    · subst hj
      exact ⟨a, _, hi, List.mem_cons_self⟩
    · rw [List.getElem?_set_ne hj] at q
      obtain ⟨b, u', e1, e2⟩ := h.fz j c' q
      exact ⟨b, u', e1, List.mem_cons_of_mem _ e2⟩
/-- .. and free again -/
theorem Tr.unlock {Z : PZ} {S : Sto} {a : Addr} {v : HO} (h : HR (T.wp ((a, some v) :: Z)) H α S) (ha : a ∈ α) (u : HO) : Tr (T.wp ((a, some v) :: Z)) (T.wp Z) H (upd H a u) α α :=
  ⟨rfl, rfl, rfl, fun b hb => (h.priv b hb).2, fun b o e n nz => ⟨by rw [upd_ne (by rintro rfl; exact n ha)]; exact e, n, fun z => nz (List.mem_cons_of_mem _ z)⟩, fun _ _ e => e⟩
theorem HR.unlock {Z : PZ} {S : Sto} {a : Addr} {o : Obj} {u : HO} (h : HR (T.wp ((a, some (.frz o u)) :: Z)) H α S) {i : Nat} {c : Cell} (hi : α[i]? = some a) (hs : S[i]? = some (.frz c)) (hz : ∀ u', (a, some u') ∉ Z) (hn : ∀ c', c ≠ .frz c') :
    HR (T.wp Z) (upd H a u) α (S.set i c) ∧ H a = some (.frz o u) := by
  have ha := List.mem_of_getElem? hi
  have hl : i < S.length := (List.getElem?_eq_some_iff.mp hs).1
  have t := Tr.unlock h ha u
  have hu := (h.lck a (.frz o u) List.mem_cons_self).1
  have hne : ∀ j b, α[j]? = some b → i ≠ j → b ≠ a := fun j b e1 hj z => by
    apply hj; subst z
    obtain ⟨h1, h2⟩ := List.getElem?_eq_some_iff.mp hi
    obtain ⟨h3, h4⟩ := List.getElem?_eq_some_iff.mp e1
    exact (List.getElem_inj h.nd).mp (h2.trans h4.symm)
  refine ⟨⟨by simp [h.len], h.nd, fun j c' q => ?_, fun b hb => ?_, fun b u' q => ?_, fun j c' q => ?_⟩, hu⟩
  · by_cases hj : i = j
    · subst hj
      rw [List.getElem?_set_self hl] at q
      cases q
      obtain ⟨a', v, e1, e2, o', u', e3, e4⟩ := h.cell i _ hs
      rw [hi] at e1; cases e1
      rw [hu] at e2; cases e2
      cases e3
      exact ⟨a, u, hi, upd_same, e4.tr t⟩
    · rw [List.getElem?_set_ne hj] at q
      obtain ⟨b, u', e1, e2, e3⟩ := h.cell j c' q
      exact ⟨b, u', e1, by rw [upd_ne (hne j b e1 hj)]; exact e2, e3.tr t⟩
  · obtain ⟨n, xs, e⟩ := h.priv b (List.mem_cons_of_mem _ hb)
    exact ⟨n, xs, by rw [upd_ne (by rintro rfl; exact n ha)]; exact e⟩
  · obtain ⟨e1, e2⟩ := h.lck b u' (List.mem_cons_of_mem _ q)
    refine ⟨?_, e2⟩
    rw [upd_ne]
    · exact e1
    · rintro rfl
      exact hz _ q
  · by_cases hj : i = j
    · subst hj
      rw [List.getElem?_set_self hl] at q
      cases q
      exact absurd rfl (hn c')
    · rw [List.getElem?_set_ne hj] at q
      obtain ⟨b, u', e1, e2⟩ := h.fz j c' q
      rcases List.mem_cons.mp (show (b, some u') ∈ (a, some (HO.frz o u)) :: Z from e2) with e | e2
      · exact absurd (congrArg Prod.fst e) (hne j b e1 hj)
      · exact ⟨b, u', e1, e2⟩
end

section
variable {T : TW} {cf : Nat → List D → Sto → R D} {c : Ctx} {X : Cx} {W : WX}
abbrev W0 : WX := fun _ _ _ _ => False
noncomputable def evC (cf : Nat → List D → Sto → R D) (t : E) : NT.Env → Sto → R Bool := fun ρ S => if t.isNo = true then .ok true S else (ev2 cf t).2 ρ S
theorem wipe_twice (σ : L2.St) : ∀ own : List Nat, wipe (wipe σ own) own = wipe σ own
  | own => by
    apply List.ext_getElem?
    intro k
    by_cases hk : k ∈ own
    · have h : ∀ (τ : L2.St) (own : List Nat), k ∈ own → (wipe τ own)[k]? = if k < τ.length then some none else none := by
        intro τ own
        induction own with
        | nil => intro h; cases h
        | cons j own ih =>
          intro h
          show ((wipe τ own).set j none)[k]? = _
          by_cases hj : j = k
          · subst hj
            by_cases hl : j < τ.length
            · rw [List.getElem?_set_self (by rw [wipe_length]; exact hl), if_pos hl]
            · rw [List.getElem?_eq_none (by simp [wipe_length]; omega), if_neg hl]
          · rw [List.getElem?_set_ne hj]
            exact ih (by rcases List.mem_cons.mp h with e | h; exact absurd e.symm hj; exact h)
      rw [h _ own hk, h _ own hk, wipe_length]
    · have h : ∀ (τ : L2.St) (own : List Nat), k ∉ own → (wipe τ own)[k]? = τ[k]? := by
        intro τ own
        induction own with
        | nil => intro _; rfl
        | cons j own ih =>
          intro h
          show ((wipe τ own).set j none)[k]? = _
          rw [List.getElem?_set_ne (fun e => h (by rw [e]; exact List.mem_cons_self))]
          exact ih fun z => h (List.mem_cons_of_mem _ z)
      rw [h _ own hk]
theorem lcD_nil {gs : Gs} {turn : D → Sto → R (Option D)} {acc : List D} {S : Sto} : lcD gs turn [] acc S = (open Classical in if gok gs S then .ok acc S else .stuck) := rfl
theorem lcD_cons {gs : Gs} {turn : D → Sto → R (Option D)} {acc ds : List D} {d : D} {S : Sto} : lcD gs turn (d :: ds) acc S = (open Classical in if gok gs S then (match turn d S with
    | .ok o S' => lcD gs turn ds (match o with | some y => acc ++ [y] | none => acc) S'
    | _ => .stuck) else .stuck) := rfl
theorem comp_conv {p : Pat} {it : NT.It} {t elt : E} {own : List Nat} (hpo : p.ins own = true) {σ : L2.St} {H : Hp} {Q : VK} (h : tE T W (ev2 cf (.comp p it t elt own)).1 σ H Q) :
    tLc (tI T W (evIt cf it)) (gPat T.K p) (tT T W0 (evC cf t)) (tE T W0 (ev2 cf elt).1) own σ H Q := by
  obtain ⟨Z, α, ρ, S, hr, re, q⟩ := h
  refine ⟨Z, α, ρ, S, hr, re, (postG.bind q).mono fun ig H1 α1 S1 e1 h1 q1 J wk => fun Dd hD => ?_⟩
  obtain ⟨items, gs⟩ := ig
  dsimp only at wk q1
  by_cases hlen : items.length ≤ sizeLine
  case neg =>
    rw [if_neg hlen] at q1
    exact q1.elim
  rw [if_pos hlen] at q1
  generalize hturn : (fun d S2 => match p.bnd d (wipeD ρ own) with
        | none => R.stuck
        | some ρ' => (if t.isNo = true then R.ok true S2 else (ev2 cf t).2 ρ' S2 : R Bool).bind fun t S3 => if t = true then ((ev2 cf elt).1 ρ' S3).bind fun y S4 => .ok (some y) S4 else .ok none S3) = turn at q1
  have hZ : ¬ Z.prv Dd := h1.freshZ hD
  refine ⟨fun i m Hx => m = items.length - i ∧ i ≤ items.length ∧ ∃ αx Sx acc vacc, Ext H1 α1 Hx αx ∧ HR (T.wp ((Dd, none) :: Z)) Hx αx Sx ∧ Hx Dd = some (.lst vacc) ∧ RepL (T.wp ((Dd, none) :: Z)) Hx αx acc vacc ∧ acc.length ≤ i ∧
    (∀ d v, Rep (T.wp Z) H1 α1 d v → Rep (T.wp ((Dd, none) :: Z)) Hx αx d v) ∧ postG (T.wp Z) W σ H1 α1 ((lcD gs turn (items.drop i) acc Sx).bind fun ds S2 => R.ok (D.lst ds) S2) fun d H' α' _ => ∀ v, Rep (T.wp Z) H' α' d v → Q v H',
    ⟨items.length, by simp, Nat.zero_le _, α1, S1, [], [], Ext.laid h1 hD _, h1.begin hD _, upd_same, rfl, Nat.le_refl _, fun d v r => r.tr (Tr.begin h1 hD _), q1⟩, ?_⟩
  rintro i m Hx ⟨rfl, hi, αx, Sx, acc, vacc, ex, hx, hDx, ra, hacc, conv, px⟩
  have hgok : gok gs Sx := by
    by_cases hg : gok gs Sx
    · exact hg
    · exfalso
      cases hdr : items.drop i with
      | nil => rw [hdr, lcD_nil, if_neg hg] at px; exact px.elim
      | cons d ds => rw [hdr, lcD_cons, if_neg hg] at px; exact px.elim
  have wki := wk ((Dd, none) :: Z) i Hx αx Sx hi (fun a ha => List.mem_cons_of_mem _ ha) ex hx conv hgok
  by_cases hlt : i < items.length
  · refine .inr ⟨(wki.1 hlt).1, fun H' => ∃ αx Sx acc vacc, Ext H1 α1 H' αx ∧ HR (T.wp ((Dd, none) :: Z)) H' αx Sx ∧ H' Dd = some (.lst vacc) ∧ RepL (T.wp ((Dd, none) :: Z)) H' αx acc vacc ∧ acc.length ≤ i + 1 ∧
      (∀ d v, Rep (T.wp Z) H1 α1 d v → Rep (T.wp ((Dd, none) :: Z)) H' αx d v) ∧ postG (T.wp Z) W σ H1 α1 ((lcD gs turn (items.drop (i + 1)) acc Sx).bind fun ds S2 => R.ok (D.lst ds) S2) fun d H' α' _ => ∀ v, Rep (T.wp Z) H' α' d v → Q v H',
      fun H' hh => ⟨items.length - (i + 1), by omega, rfl, hlt, hh⟩, fun xv H' hy => ?_⟩
    obtain ⟨d, hd, ey, hy2, ry⟩ := (wki.1 hlt).2 xv H' hy
    have hdrop : items.drop i = d :: items.drop (i + 1) := by
      rw [List.drop_eq_getElem_cons hlt]
      obtain ⟨_, e⟩ := List.getElem?_eq_some_iff.mp hd
      rw [e]
    rw [hdrop, lcD_cons, if_pos hgok] at px
    have ra1 := ra.ext ey
    have rw0 : RepE (T.wp ((Dd, none) :: Z)) H' αx ρ σ := ⟨re.1, fun j dd e => by
      obtain ⟨v, e2, r2⟩ := re.2 j dd e
      exact ⟨v, e2, (conv dd v (r2.ext e1)).ext ey⟩⟩
    have rw1 := rw0.wipe own
    cases hb : p.bnd d (wipeD ρ own) with
    | none =>
      rw [← hturn] at px
      simp only [hb] at px
      exact px.elim
    | some ρ' =>
      obtain ⟨σ', re', gp, wp⟩ := bnd_ok hb ry rw1
      refine gp _ ⟨by rw [wp own hpo]; exact wipe_twice σ own, (Dd, none) :: Z, αx, ρ', Sx, hy2, re', ?_⟩
      have hDy : H' Dd = some (.lst vacc) := ey.keep _ _ hDx (hx.priv Dd List.mem_cons_self).1
      have et : turn d Sx = (evC cf t ρ' Sx).bind fun t S3 => if t = true then ((ev2 cf elt).1 ρ' S3).bind fun y S4 => .ok (some y) S4 else .ok none S3 := by
        rw [← hturn]
        simp only [hb]
        rfl
      rw [et] at px
      cases hc : evC cf t ρ' Sx with
      | stuck => rw [hc] at px; exact px.elim
      | exc k S2 => rw [hc] at px; exact px.elim
      | ok b S3 =>
        rw [hc] at px
        intro H3 α3 e3 h3
        have hD3 : H3 Dd = some (.lst vacc) := e3.keep _ _ hDy (hy2.priv Dd List.mem_cons_self).1
        cases b with
        | false =>
          refine iteF ?_
          have px' : postG (T.wp Z) W σ H1 α1 ((lcD gs turn (items.drop (i + 1)) acc S3).bind fun ds S2 => R.ok (D.lst ds) S2) fun d H' α' _ => ∀ v, Rep (T.wp Z) H' α' d v → Q v H' := px
          exact ⟨α3, S3, acc, vacc, (ex.trans ey).trans e3, h3, hD3, ra1.ext e3, by omega, fun dd v r => ((conv dd v r).ext ey).ext e3, px'⟩
        | true =>
          refine iteT ?_
          refine ⟨(Dd, none) :: Z, α3, ρ', S3, h3, re'.ext e3, ?_⟩
          cases hy : (ev2 cf elt).1 ρ' S3 with
          | stuck => rw [show ((R.ok true S3).bind fun t S3 => if t = true then ((ev2 cf elt).1 ρ' S3).bind fun y S4 => R.ok (some y) S4 else .ok none S3) = ((ev2 cf elt).1 ρ' S3).bind fun y S4 => R.ok (some y) S4 from rfl, hy] at px; exact px.elim
          | exc k S2 => rw [show ((R.ok true S3).bind fun t S3 => if t = true then ((ev2 cf elt).1 ρ' S3).bind fun y S4 => R.ok (some y) S4 else .ok none S3) = ((ev2 cf elt).1 ρ' S3).bind fun y S4 => R.ok (some y) S4 from rfl, hy] at px; exact px.elim
          | ok y S4 =>
            rw [show ((R.ok true S3).bind fun t S3 => if t = true then ((ev2 cf elt).1 ρ' S3).bind fun y S4 => R.ok (some y) S4 else .ok none S3) = ((ev2 cf elt).1 ρ' S3).bind fun y S4 => R.ok (some y) S4 from rfl, hy] at px
            have px' : postG (T.wp Z) W σ H1 α1 ((lcD gs turn (items.drop (i + 1)) (acc ++ [y]) S4).bind fun ds S2 => R.ok (D.lst ds) S2) fun d H' α' _ => ∀ v, Rep (T.wp Z) H' α' d v → Q v H' := px
            intro H4 α4 e4 h4 v rv
            have hD4 : H4 Dd = some (.lst vacc) := e4.keep _ _ hD3 (h3.priv Dd List.mem_cons_self).1
            have ra4 := (ra1.ext e3).ext e4
            have tt := Tr.touch h4 (List.mem_cons_self (a := (Dd, (none : Option HO))) (l := Z)) (vacc ++ [v])
            have e14 := ((ex.trans ey).trans e3).trans e4
            refine ⟨vacc, hD4, ?_, α4, S4, acc ++ [y], vacc ++ [v], ?_, h4.touch List.mem_cons_self _, upd_same, (ra4.tr tt).append ⟨v, [], rfl, rv.tr tt, rfl⟩, by simp; omega, fun dd w r => ((((conv dd w r).ext ey).ext e3).ext e4).tr tt, px'⟩
            · rw [← ra4.length]; omega
            · exact ⟨e14.pre, e14.new, fun a o q n => by rw [upd_ne (ne_of_none q hD)]; exact e14.keep a o q n⟩
  · have hi' : i = items.length := by omega
    refine .inl ⟨wki.2 hi', ?_⟩
    subst hi'
    rw [List.drop_length, lcD_nil, if_pos hgok] at px
    exact px Hx αx ex hx.end_ _ ⟨Dd, vacc, rfl, ⟨hDx, (hx.priv Dd List.mem_cons_self).1, hZ⟩, ra.tr (Tr.end_ hx)⟩
theorem comp_ok (hcalm : X.calm = true) (hN : X.N.Nodup) {p : Pat} {it : NT.It} {t elt : E} {own : List Nat} {tg iter x : Expr} {ifs : List Expr} {scope : Scope} {pos : Pos} {ow : List (Str × Nat)}
    (hit : PI X tg iter (tI T W (evIt cf it))) (ok : BlkOk X.N X.env.scope scope ow) (how : ow.map (·.2) = own) (hpo : p.ins own = true)
    (hg : ∀ (s : Shared) (H : Hp) (C : Addr) (cl : List (Str × Addr)) (fp : List Addr), PG (X.blk s H scope (compEnvC scope cl C X.env) fp) tg (gPat T.K p))
    (ht : ∀ (s : Shared) (H : Hp) (C : Addr) (cl : List (Str × Addr)) (fp : List Addr), PTs (X.blk s H scope (compEnvC scope cl C X.env) fp) ifs (tT T W0 (evC cf t)))
    (he : ∀ (s : Shared) (H : Hp) (C : Addr) (cl : List (Str × Addr)) (fp : List Addr), PE (X.blk s H scope (compEnvC scope cl C X.env) fp) x (tE T W0 (ev2 cf elt).1))
    (hs : ∀ v, foldedSetIterable iter X.env v = pure v) :
    PE X (.ListComp x [⟨tg, iter, ifs, 0⟩] scope pos) (tE T W (ev2 cf (.comp p it t elt own)).1) := by
  refine PE.imp (pe_lc hcalm hN hit ok hg ht he hs) fun σ H Q h => ?_
  rw [how]
  exact comp_conv hpo h
end
end NT
/-! the interpreter is right: every expression -/
namespace NT
open PySem L2
section
variable {T : TW} {cf : Nat → List D → Sto → R D}
theorem Good.blk {c : Ctx} {X : Cx} {W : WX} (g : Good T cf c X W) {scope : Scope} (hk : scope.kind = .function) (s : Shared) (H : Hp) (C : Addr) (cl : List (Str × Addr)) (fp : List Addr) : Good T cf (c.inner scope) (X.blk s H scope (compEnvC scope cl C X.env) fp) W0 where
  N := g.N
  nd := g.nd
  sc := by
    show relabel scope X.env = relS scope c.sc
    unfold relabel relS
    rw [← g.sc]
    rfl
  kind := hk
  fnl := rfl
  K := g.K
  calm := g.calm
  room := g.room
  bn := g.bn
  gls := g.gls
  ex := g.ex
  cl := g.cl
  tk := takes0
theorem call_case {c : Ctx} {X : Cx} {W : WX} (g : Good T cf c X W) {f : Nat} {x : Str} {p pos : Pos} {e : Expr} {es : List Expr} {m : NT.Env → Sto → R (List D)} (hx : c.gl x = true) (hf : c.fns[f]? = some (some x)) (ha : PA X (e :: es) (tA T W m)) (hs : ∀ y ∈ e :: es, notStar y = true) :
    PE X (.Call (.Name x p) (e :: es) [] pos) (tE T W fun ρ S => (m ρ S).bind fun ds S1 => cf f ds S1) := by
  obtain ⟨k, hr, hall⟩ := g.room
  obtain ⟨fd, ps, np, h1, h2, F, h3, h4, h5⟩ := hall f _ hf
  obtain ⟨gl, n1, n2⟩ := g.gl hx
  refine PE.imp (pe_callS (E := WE W) F (hr.mono (Nat.le_succ k)) gl (h1 x rfl) h2 h4 (fun σ => passAt g.tk σ) ha n1 (star_eq (hs e List.mem_cons_self)) (star_any fun y hy => hs y (List.mem_cons_of_mem _ hy))) fun σ H Q h => ?_
  obtain ⟨Z, α, ρ, S, hr, re, q⟩ := h
  refine ⟨Z, α, ρ, S, hr, re, (postG.bind q).mono fun ds H1 α1 S1 e1 h1 q1 vs r1 => ?_⟩
  have hl : ds.length = np := by
    by_cases hl : ds.length = np
    · exact hl
    · rw [h5 ds S1 hl] at q1
      exact q1.elim
  refine ⟨by rw [← r1.length]; exact hl, Z, α1, S1, ds, h1, r1, ?_⟩
  cases hc : cf f ds S1 with
  | stuck => rw [hc] at q1; exact q1
  | ok d S2 => rw [hc] at q1; exact q1
  | exc k S2 => rw [hc] at q1; exact q1
open PySem.Spec PyProof.Rows in
theorem callL_case {c : Ctx} {X : Cx} {W : WX} (g : Good T cf c X W) {i : Nat} {fs : List Nat} {x : Str} {p pos : Pos} {e : Expr} {es : List Expr} {m : NT.Env → Sto → R (List D)} (hfs : ∀ f ∈ fs, (c.fns[f]?).isSome = true) (hx : c.vis i x = true) (ha : PA X (e :: es) (tA T W m)) (hs : ∀ y ∈ e :: es, notStar y = true) :
    PE X (.Call (.Name x p) (e :: es) [] pos) (tE T W fun ρ S => match ρ[i]? with
      | some (some (.fn f)) => if f ∈ fs then (m ρ S).bind fun ds S1 => cf f ds S1 else .stuck
      | _ => .stuck) := by
  refine ⟨fun pins s σ H Q I h => ?_⟩
  obtain ⟨Z, α, ρ, S, hr, re, q⟩ := h
  dsimp only at q
  cases hd : ρ[i]? with
  | none => rw [hd] at q; exact q.elim
  | some o =>
    cases o with
    | none => rw [hd] at q; exact q.elim
    | some d =>
      cases d <;> first | (rw [hd] at q; exact q.elim) | skip
      rename_i f
      rw [hd] at q
      dsimp only at q
      by_cases hin : f ∈ fs
      case neg => rw [if_neg hin] at q; exact q.elim
      rw [if_pos hin] at q
      obtain ⟨v0, e0, r0⟩ := re.2 i _ hd
      have ev : v0 = .ref (T.fa f) := r0
      subst ev
      obtain ⟨k, hroom, hall⟩ := g.room
      cases hf : c.fns[f]? with
      | none =>
        have := hfs f hin
        rw [hf] at this
        cases this
      | some fx =>
        obtain ⟨fd, ps, np, h1, h2, F, h3, h4, h5⟩ := hall f fx hf
        refine wpAny_Call_Name_kw (thn ((g.var (pos := p) hx).run pins s σ H (fun v H1 => v = .ref (T.fa f) ∧ H1 = H) I ⟨.ref (T.fa f), e0, rfl, rfl⟩) fun u s1 ⟨v, H1, I1, r1, q1⟩ => ?_)
        obtain ⟨rfl, rfl⟩ := q1
        cases r1
        have hA : tA T W m σ H1 fun vs H2 => spI T np (cf f) vs H2 Q (WE W σ) := by
          refine ⟨Z, α, ρ, S, hr, re, (postG.bind q).mono fun ds H2 α2 S2 e2 h2' q2 vs rs => ?_⟩
          have hl : ds.length = np := by
            by_cases hl : ds.length = np
            · exact hl
            · rw [h5 ds S2 hl] at q2
              exact q2.elim
          refine ⟨by rw [← rs.length]; exact hl, Z, α2, S2, ds, h2', rs, ?_⟩
          cases hc : cf f ds S2 with
          | stuck => rw [hc] at q2; exact q2
          | ok d S3 => rw [hc] at q2; exact q2
          | exc k' S3 => rw [hc] at q2; exact q2
        refine PySem.W.callWith_K (h₀ := X.base) I.ok.mod.kin h2 (thn (ha.run pos pins s1 σ _ _ I1 hA) fun us s2 ⟨vs, H2, I2, r, q⟩ => ⟨I2.kIn, ?_⟩) (star_eq (hs e List.mem_cons_self)) (star_any fun y hy => hs y (List.mem_cons_of_mem _ hy))
        exact run_fnS F (hroom.mono (Nat.le_succ k)) h4 (passAt g.tk σ) I2 r q
/-- the values of a call of def number f -/
theorem spI_of {W : WX} {X : Cx} {σ : L2.St} {f np : Nat} {Z : PZ} {α : List Addr} {S : Sto} {H : Hp} {ds : List D} {vs : List V} {Q : VK} (h5 : ∀ ds S, ds.length ≠ np → cf f ds S = .stuck) (h : HR (T.wp Z) H α S) (rs : RepL (T.wp Z) H α ds vs)
    (q : postG (T.wp Z) W σ H α (cf f ds S) fun d H' α' _ => ∀ v, Rep (T.wp Z) H' α' d v → Q v H') : spI T np (cf f) vs H Q (WE W σ) := by
  have hl : ds.length = np := by
    by_cases hl : ds.length = np
    · exact hl
    · rw [h5 ds S hl] at q
      exact q.elim
  refine ⟨by rw [← rs.length]; exact hl, Z, α, S, ds, h, rs, ?_⟩
  cases hc : cf f ds S with
  | stuck => rw [hc] at q; exact q
  | ok d S2 => rw [hc] at q; exact q
  | exc k S2 => rw [hc] at q; exact q
theorem insOf_ok {H : Hp} {α : List Addr} {S : Sto} {c : Nat} {d : D} {v : V} {i : Nat} {fs : List (Str × D)} (h : HR T H α S) (r : Rep T H α d v) (e : insOf S c d = some (i, fs)) :
    d = .ref i ∧ ∃ a dx ws, v = .ref a ∧ α[i]? = some a ∧ H a = some (.ins (T.ca c) dx ws) ∧ RepKV T H α fs ws := by
  unfold insOf at e
  split at e
  · split at e
    · rename_i c' fs' q
      split at e
      · rename_i hc
        cases e
        subst hc
        obtain ⟨a, rfl, h1⟩ := r
        obtain ⟨a', u, e2, e3, dx, ws, rfl, e4⟩ := h.cell _ _ q
        rw [h1] at e2; cases e2
        exact ⟨rfl, a, dx, ws, rfl, h1, e3, e4⟩
      · cases e
    · cases e
  · cases e
theorem RepKV.lookup {H : Hp} {α : List Addr} : ∀ {fs : List (Str × D)} {ws : List (Str × V)} (n : Str), RepKV T H α fs ws → RO T H α (NT.look fs n) (ws.lookup n)
  | [], _, n, r => by cases r; rfl
  | kd :: fs, _, n, r => by
    obtain ⟨v, ws, rfl, h1, h2⟩ := r
    have ih := RepKV.lookup n h2
    by_cases hk : kd.1 = n
    · subst hk
      have e1 : NT.look (kd :: fs) kd.1 = some kd.2 := by simp [NT.look]
      have e2 : List.lookup kd.1 ((kd.1, v) :: ws) = some v := by simp [List.lookup]
      rw [e1, e2]
      exact ⟨v, rfl, h1⟩
    · have e1 : NT.look (kd :: fs) n = NT.look fs n := by simp [NT.look, hk]
      have e2 : List.lookup n ((kd.1, v) :: ws) = ws.lookup n := by
        have : (n == kd.1) = false := beq_eq_false_iff_ne.mpr fun z => hk z.symm
        simp [List.lookup, this]
      rw [e1, e2]
      exact ih
theorem RepKV.putFD {H : Hp} {α : List Addr} {d : D} {v : V} (hd : Rep T H α d v) (n : Str) : ∀ {fs : List (Str × D)} {ws : List (Str × V)}, RepKV T H α fs ws → RepKV T H α (NT.putFD n d fs) (putF n v ws)
  | [], _, r => by cases r; exact ⟨v, [], rfl, hd, rfl⟩
  | (g, x) :: fs, _, r => by
    obtain ⟨w, ws, rfl, h1, h2⟩ := r
    by_cases hg : g = n
    · subst hg
      have e1 : NT.putFD g d ((g, x) :: fs) = (g, d) :: fs := if_pos rfl
      have e2 : putF g v ((g, w) :: ws) = (g, v) :: ws := if_pos rfl
      show RepKV T H α (NT.putFD g d ((g, x) :: fs)) (putF g v ((g, w) :: ws))
      rw [e1, e2]
      exact ⟨v, ws, rfl, hd, h2⟩
    · have e1 : NT.putFD n d ((g, x) :: fs) = (g, x) :: NT.putFD n d fs := if_neg hg
      have e2 : putF n v ((g, w) :: ws) = (g, w) :: putF n v ws := if_neg hg
      show RepKV T H α (NT.putFD n d ((g, x) :: fs)) (putF n v ((g, w) :: ws))
      rw [e1, e2]
      exact ⟨w, _, rfl, h1, RepKV.putFD hd n h2⟩
theorem pairUp_rep {H : Hp} {α : List Addr} : ∀ {ds : List D} {vs : List V} {kvs : List (Key × D)}, pairUp ds = some kvs → RepL T H α ds vs → ∃ ws : List (Key × V), vs = ws.flatMap (fun kv => [kV kv.1, kv.2]) ∧ RepKV T H α kvs ws
  | [], _, _, e, r => by
    cases e; cases r
    exact ⟨[], rfl, rfl⟩
  | [_], _, _, e, _ => by cases e
  | k :: v :: ds, _, _, e, r => by
    obtain ⟨x, vs, rfl, h1, y, vs', rfl, h2, h3⟩ := r
    rw [pairUp] at e
    split at e
    · rename_i kk kvs ek er
      cases e
      obtain ⟨ws, rfl, g⟩ := pairUp_rep er h3
      have := keyOf_rep h1 ek
      subst this
      exact ⟨(kk, y) :: ws, rfl, y, ws, rfl, h2, g⟩
    · cases e
/-! ### locks -/
theorem Ext.unlock {H H' : Hp} {α α' : List Addr} {a : Addr} {f u : HO} (ha : a ∈ α) (e : Ext (upd H a f) α H' α') : Ext H α (upd H' a u) α' :=
  ⟨e.pre, fun b hb n => by
    have := e.new b hb n
    rw [upd_ne (by rintro rfl; exact n ha)] at this
    exact this, fun b o q n => by
    have hb : b ≠ a := by rintro rfl; exact n ha
    rw [upd_ne hb]
    exact e.keep b o (by rw [upd_ne hb]; exact q) n⟩
theorem lkd_ok {H : Hp} {α : List Addr} {S S1 : Sto} {Z : PZ} {i : Nat} (h : HR (T.wp Z) H α S) (e : lkd S i = some S1) :
    ∃ a u, α[i]? = some a ∧ H a = some u ∧ Mut (some u) ∧ ∀ od, HR (T.wp ((a, some (.frz od u)) :: Z)) (upd H a (.frz od u)) α S1 ∧ ∀ u', (a, some u') ∉ Z := by
  unfold lkd at e
  split at e
  · rename_i kvs q
    cases e
    obtain ⟨a, u, e1, e2, ws, rfl, e3⟩ := h.cell _ _ q
    exact ⟨a, _, e1, e2, True.intro, fun od => h.lock e1 q e2 rfl ⟨ws, rfl, e3⟩ od⟩
  · rename_i kvs q
    cases e
    obtain ⟨a, u, e1, e2, ws, rfl, e3⟩ := h.cell _ _ q
    exact ⟨a, _, e1, e2, True.intro, fun od => h.lock e1 q e2 rfl ⟨ws, rfl, e3⟩ od⟩
  · cases e
theorem unlkd_ok {H : Hp} {α : List Addr} {S S1 : Sto} {Z : PZ} {i : Nat} {a : Addr} {od : Obj} {u : HO} (h : HR (T.wp ((a, some (.frz od u)) :: Z)) H α S) (ha : α[i]? = some a) (hz : ∀ u', (a, some u') ∉ Z) (e : unlkd S i = some S1) :
    HR (T.wp Z) (upd H a u) α S1 ∧ H a = some (.frz od u) := by
  unfold unlkd at e
  split at e
  · rename_i kvs q
    cases e
    exact h.unlock ha q hz (fun c' z => by cases z)
  · rename_i kvs q
    cases e
    exact h.unlock ha q hz (fun c' z => by cases z)
  · cases e
theorem pe_lk {X : Cx} {W : WX} {x : Expr} {m mi : NT.Env → Sto → R D} (hp : PE X x (tE T W m)) : PE X x (tE T W fun ρ S => lkR (mi ρ S) S (m ρ)) := by
  refine ⟨fun pins s σ H Q I h => ?_⟩
  obtain ⟨Z, α, ρ, S, hr, re, q⟩ := h
  dsimp only at q
  unfold lkR at q
  split at q
  · rename_i i S0 _
    split at q
    · exact hp.run pins s σ H Q I ⟨Z, α, ρ, S, hr, re, q⟩
    · split at q
      · rename_i S1 e1
        refine (pe_lock hp).run pins s σ H Q I ?_
        obtain ⟨a, u, ha, hu, mu, lk⟩ := lkd_ok hr e1
        refine ⟨a, u, hu, mu, fun od => ?_⟩
        obtain ⟨h1, hz⟩ := lk od
        have hm := List.mem_of_getElem? ha
        refine ⟨(a, some (.frz od u)) :: Z, α, ρ, S1, h1, re.tr (Tr.lock hr hm _ _), ?_⟩
        split at q
        · rename_i d S2 e2
          split at q
          · rename_i S3 e3
            rw [e2]
            intro H' α' e' h' v r
            have ha' := e'.get ha
            obtain ⟨h3, hf⟩ := unlkd_ok h' ha' hz e3
            refine ⟨hf, q _ _ (Ext.unlock hm e') h3 v (r.tr (Tr.unlock h' (List.mem_of_getElem? ha') u))⟩
          · exact q.elim
        · exact q.elim
      · exact q.elim
  · exact q.elim
theorem mth_rule {c : Ctx} {X : Cx} {W : WX} (g : Good T cf c X W) : ∀ m : Mth, ∃ Ty id, PlainAttrs Ty ∧ Slot Ty m.nm id ∧ typeOf (.builtin id) = pure (.type "method_descriptor") ∧ (∀ T' : TW, T'.K = T.K → MtR X id (rM T' m.f)) ∧
    ∀ (T' : TW) H α S d v, T'.K = X.K → HR T' H α S → Rep T' H α d v → m.ok S d = true → tyW X.K Ty v H := by
  have hu := g.units
  have lst : ∀ (T' : TW) H α S d v, T'.K = X.K → HR T' H α S → Rep T' H α d v → (match d with | .ref i => (cellL S i).isSome | _ => false) = true → tyW X.K "list" v H := by
    intro T' H α S d v hK hr r ho
    split at ho
    · cases e : cellL S _ with
      | none => rw [e] at ho; cases ho
      | some ds =>
        obtain ⟨a, vs, rfl, _, h, _⟩ := cellL_ok hr r e
        exact .inl (.inl ⟨rfl, vs, SqL.of h⟩)
    · cases ho
  have dct : ∀ (T' : TW) H α S d v, T'.K = X.K → HR T' H α S → Rep T' H α d v → (match d with | .ref i => (match (S[i]?).map unl with | some (.dK _) => true | some (.dT _) => true | _ => false) | _ => false) = true → tyW X.K "dict" v H := by
    intro T' H α S d v hK hr r ho
    split at ho
    · obtain ⟨a, rfl, ha⟩ := r
      split at ho
      · rename_i kvs e
        obtain ⟨a', u, e1, e2, ws, rfl, _⟩ := hr.cellR e
        rw [ha] at e1; cases e1
        exact .inr ⟨rfl, a, rfl, .inl ⟨ws, e2⟩⟩
      · rename_i kvs e
        obtain ⟨a', u, e1, e2, ws, rfl, _⟩ := hr.cellR e
        rw [ha] at e1; cases e1
        exact .inr ⟨rfl, a, rfl, .inr ⟨ws, e2⟩⟩
      · cases ho
    · cases ho
  intro m
  cases m
  · exact ⟨"list", "list.append", PySem.F.plainAttrs_list, PySem.F.slot_list_append, PySem.F.type_list_append, fun _ _ => append_ok, lst⟩
  · exact ⟨"list", "list.extend", PySem.F.plainAttrs_list, PySem.F.slot_list_extend, PySem.F.type_list_extend, fun _ _ => extend_ok, lst⟩
  · exact ⟨"list", "list.pop", PySem.F.plainAttrs_list, PySem.F.slot_list_pop, PySem.F.type_list_pop, fun _ _ => popL_ok, lst⟩
  · exact ⟨"dict", "dict.get", PySem.F.plainAttrs_dict, PySem.F.slot_dict_get, PySem.F.type_dict_get, fun _ _ => dget_ok (by omega), dct⟩
  · exact ⟨"dict", "dict.pop", PySem.F.plainAttrs_dict, PySem.F.slot_dict_pop, PySem.F.type_dict_pop, fun _ _ => dpop_ok (by omega), dct⟩
  · exact ⟨"list", "list.insert", PySem.F.plainAttrs_list, PySem.F.slot_list_insert, PySem.F.type_list_insert, fun _ _ => insert_ok, lst⟩
  · exact ⟨"list", "list.remove", PySem.F.plainAttrs_list, PySem.F.slot_list_remove, PySem.F.type_list_remove, fun _ _ => remove_ok, lst⟩
  · exact ⟨"dict", "dict.setdefault", PySem.F.plainAttrs_dict, PySem.F.slot_dict_setdefault, PySem.F.type_dict_setdefault, fun _ _ => setdef_ok (by omega), dct⟩
def rXM (T : TW) (f : OpF) : V → List V → Hp → VK → Prop := fun x xs H Q => ∃ Z, rM (T.wp Z) f x xs H Q
theorem free_of {x : Expr} {env : PySem.Env} (h : isFree x = true) : ∀ whole, isTrue x env whole = (do let v ← whole; standAt x.pos; holding [v] (truthy v)) := by
  intro whole
  cases x <;> first | rfl | (exfalso; exact absurd (show false = true from h) Bool.false_ne_true) | skip
  rename_i op e pos
  cases op <;> first | rfl | cases h

theorem evs_nil {c : Ctx} : ∀ {es : Es}, chkEs c es [] = true → ∀ ρ S, evs cf es ρ S = .ok [] S
  | .nil, _, _, _ => rfl
  | .cons _ _, h, _, _ => by cases h
theorem pk {X : Cx} {W : WX} {x : Expr} {m : NT.Env → Sto → R D} (hK : X.K = T.K) (hf : isFree x = true) (hb : isBO x = false) (hp : PE X x (tE T W m)) : PE X x (tE T W (plainE m).1) ∧ PT X x (tT T W (plainE m).2) ∧ (isBO x = true → PW X x (tT T W (plainE m).2)) :=
  ⟨hp, plainT hK hp (free_of hf), fun z => by rw [hb] at z; cases z⟩

mutual
theorem sndE : ∀ (e : E) {c : Ctx} {X : Cx} {W : WX} {x : Expr}, chkE c e x = true → Good T cf c X W → PE X x (tE T W (ev2 cf e).1) ∧ PT X x (tT T W (ev2 cf e).2) ∧ (isBO x = true → PW X x (tT T W (ev2 cf e).2))
  | .var i, c, X, W, x, h, g => by
    unfold chkE at h
    split at h
    · rename_i y pos
      refine pk g.K rfl rfl ?_
      exact PE.imp (g.var h) fun σ H Q q => by
        obtain ⟨Z, α, ρ, S, hr, re, q⟩ := q
        cases e : ρ[i]? with
        | none => simp only [e] at q; exact q.elim
        | some o =>
          cases o with
          | none => simp only [e] at q; exact q.elim
          | some d =>
            simp only [e] at q
            obtain ⟨v, e1, r⟩ := re.2 i d e
            exact ⟨v, e1, q H α (Ext.refl _ _) hr v r⟩
    · cases h
  | .lit d, c, X, W, x, h, g => by
    unfold chkE at h
    split at h
    · rename_i k j pos
      have fin : ∀ {v : V}, PE X (.Constant k j pos) (tC v) → (∀ (T' : TW) H α, Rep T' H α d v) → PE X (.Constant k j pos) (tE T W (ev2 cf (.lit d)).1) := fun hp hv => PE.imp hp fun σ H Q q => by
        obtain ⟨Z, α, ρ, S, hr, re, q⟩ := q
        exact q H α (Ext.refl _ _) hr _ (hv _ _ _)
      refine pk g.K rfl rfl ?_
      exact by
        unfold litOk at h
        split at h
        · exact fin pe_non fun _ _ _ => rfl
        · have := eq_of_beq h; subst this; exact fin pe_bl fun _ _ _ => rfl
        · have := eq_of_beq h; subst this; exact fin pe_int fun _ _ _ => rfl
        · have := eq_of_beq h; subst this; exact fin pe_str fun _ _ _ => rfl
        · cases h
    · cases h
  | .ty n, c, X, W, x, h, g => by
    unfold chkE at h
    split at h
    · rename_i y pos
      simp only [Bool.and_eq_true, decide_eq_true_eq] at h
      obtain ⟨⟨h1, h2⟩, h3⟩ := h
      obtain ⟨gl, n1, n2⟩ := g.gl h1
      have hm : X.mg y = none ∧ bootBuiltins y = some (.type n) := by
        subst h2
        have h3' : n ∈ tyNames := by simpa using h3
        simp only [tyNames, List.mem_cons, List.not_mem_nil, or_false] at h3'
        rcases h3' with rfl | rfl | rfl | rfl | rfl
        · exact ⟨g.bn _ (by decide +kernel), by decide +kernel⟩
        · exact ⟨g.bn _ (by decide +kernel), by decide +kernel⟩
        · exact ⟨g.bn _ (by decide +kernel), by decide +kernel⟩
        · exact ⟨g.bn _ (by decide +kernel), by decide +kernel⟩
        · exact ⟨g.bn _ (by decide +kernel), by decide +kernel⟩
      refine pk g.K rfl rfl ?_
      exact PE.imp (pe_bltn (v := .ty n) gl hm.1 hm.2 rfl n2 n1) fun σ H Q q => by
        obtain ⟨Z, α, ρ, S, hr, re, q⟩ := q
        exact q H α (Ext.refl _ _) hr _ rfl
    · cases h
  | .fn i, c, X, W, x, h, g => by
    unfold chkE at h
    split at h
    · rename_i y pos
      simp only [Bool.and_eq_true, decide_eq_true_eq] at h
      obtain ⟨gl, n1, n2⟩ := g.gl h.1
      obtain ⟨k, hr, hall⟩ := g.room
      obtain ⟨fd, ps, np, h1, _⟩ := hall i _ h.2
      refine pk g.K rfl rfl ?_
      exact PE.imp (pe_glob (v := .ref (T.fa i)) gl (h1 y rfl) rfl n1) fun σ H Q q => by
        obtain ⟨Z, α, ρ, S, hr, re, q⟩ := q
        exact q H α (Ext.refl _ _) hr _ rfl
    · cases h
  | .bin o a b, c, X, W, x, h, g => by
    unfold chkE at h
    split at h
    · simp only [Bool.and_eq_true] at h
      refine pk g.K rfl rfl ?_
      exact PE.imp (pe_op (bin_rule g h.1.1) (sndE a h.1.2 g).1 (sndE b h.2 g).1) fun σ H Q q => two_op q
    · cases h
  | .neg a, c, X, W, x, h, g => by
    unfold chkE at h
    split at h
    · refine pk g.K rfl rfl ?_
      exact PE.imp (pe_un un_neg (sndE a h g).1) fun σ H Q q => by
        obtain ⟨Z, α, ρ, S, hr, re, q⟩ := q
        refine ⟨Z, α, ρ, S, hr, re, (postG.bind q).mono fun d H1 α1 S1 e1 h1 q1 v r1 => ?_⟩
        cases d with
        | int i => cases r1; exact ⟨i, rfl, q1 H1 α1 (Ext.refl _ _) h1 _ rfl⟩
        | _ => exact q1.elim
    · cases h
  | .cmp o a b, c, X, W, x, h, g => by
    unfold chkE at h
    split at h
    · simp only [Bool.and_eq_true, Bool.not_eq_true'] at h
      obtain ⟨⟨⟨h1, h2⟩, h3⟩, h4⟩ := h
      refine ⟨PE.imp (pe_cmpR (cmp_rule g h1) (sndE a h3 g).1 (sndE b h4 g).1 h2) fun σ H Q q => two_op q, ?_, fun z => nomatch z⟩
      exact boolT (pt_cmpR (cmp_rule g h1) (sndE a h3 g).1 (sndE b h4 g).1 h2) fun σ H Q q => two_op q
    · cases h
  | .cmp2 o p a b d, c, X, W, x, h, g => by
    unfold chkE at h
    split at h
    · simp only [Bool.and_eq_true, Bool.not_eq_true'] at h
      obtain ⟨⟨⟨⟨⟨h1, h2⟩, h3⟩, h4⟩, h5⟩, h6⟩ := h
      have conv : ∀ σ H Q, tE T W (ev2 cf (.cmp2 o p a b d)).1 σ H Q → tChain (rX2 T o.f) (rX2 T p.f) (tE T W (ev2 cf a).1) (tE T W (ev2 cf b).1) (tE T W (ev2 cf d).1) σ H Q := fun σ H Q q => by
        obtain ⟨Z, α, ρ, S, hr, re, q⟩ := q
        refine ⟨Z, α, ρ, S, hr, re, (postG.bind q).mono fun d1 H1 α1 S1 e1 h1 q1 v1 r1 => ?_⟩
        refine ⟨Z, α1, ρ, S1, h1, re.ext e1, (postG.bind q1).mono fun d2 H2 α2 S2 e2 h2 q2 v2 r2 => ?_⟩
        have q2' := postG.bind q2
        refine ⟨Z, ?_⟩
        cases e : o.f S2 [d1, d2] with
        | none => rw [e] at q2'; exact q2'.elim
        | some pr =>
          obtain ⟨z, S3⟩ := pr
          rw [e] at q2'
          refine ⟨α2, S2, [d1, d2], z, S3, h2, ⟨v1, [v2], rfl, r1.ext e2, v2, [], rfl, r2, rfl⟩, e, fun vz H3 α3 e3 h3 r3 => ?_⟩
          have q3 := q2' H3 α3 e3 h3
          cases z with
          | bl bz =>
            cases r3
            cases bz with
            | true =>
              refine ⟨true, rfl, iteT ?_⟩
              refine ⟨Z, α3, ρ, S3, h3, ((re.ext e1).ext e2).ext e3, (postG.bind q3).mono fun d4 H4 α4 S4 e4 h4 q4 v4 r4 => ?_⟩
              exact ⟨Z, postG.op h4 (show RepL (T.wp Z) H4 α4 [d2, d4] [v2, v4] from ⟨v2, [v4], rfl, (r2.ext e3).ext e4, v4, [], rfl, r4, rfl⟩) q4⟩
            | false => exact ⟨false, rfl, iteF (q3 H3 α3 (Ext.refl _ _) h3 _ rfl)⟩
          | _ => exact q3.elim
      exact ⟨PE.imp (pe_chain (cmp_rule g h1) (cmp_rule g h2) (sndE a h4 g).1 (sndE b h5 g).1 (sndE d h6 g).1 h3) conv,
        boolT (pt_chain (cmp_rule g h1) (cmp_rule g h2) (sndE a h4 g).1 (sndE b h5 g).1 (sndE d h6 g).1 h3) conv, fun z => nomatch z⟩
    · cases h
  | .and a b, c, X, W, x, h, g => by
    unfold chkE at h
    split at h
    · simp only [Bool.and_eq_true] at h
      obtain ⟨p1, p2, _⟩ := sndE a h.1 g
      obtain ⟨p3, _, p4⟩ := sndE b h.2 g
      have hw : PW X (.BoolOp .And (_ :: _ :: _) _) (tT T W (ev2 cf (.and a b)).2) := PW.imp (pw_and p2 (p4 rfl)) fun σ H Q q => by
        obtain ⟨Z, α, ρ, S, hr, re, q⟩ := q
        refine ⟨Z, α, ρ, S, hr, re, (postG.bind q).mono fun t H1 α1 S1 e1 h1 q1 => ?_⟩
        cases t with
        | true => exact iteT ⟨Z, α1, ρ, S1, h1, re.ext e1, q1⟩
        | false => exact iteF (q1 H1 α1 (Ext.refl _ _) h1)
      refine ⟨PE.imp (pe_and p1 p3) fun σ H Q q => ?_, hw.pt, fun _ => hw⟩
      obtain ⟨Z, α, ρ, S, hr, re, q⟩ := q
      refine ⟨Z, α, ρ, S, hr, re, (postG.bind q).mono fun t H1 α1 S1 e1 h1 q1 v r => ?_⟩
      cases t with
      | bl t =>
        cases r
        cases t with
        | true => exact ⟨true, rfl, iteT ⟨Z, α1, ρ, S1, h1, re.ext e1, q1⟩⟩
        | false => exact ⟨false, rfl, iteF (q1 H1 α1 (Ext.refl _ _) h1 _ rfl)⟩
      | _ => exact q1.elim
    · cases h
  | .or a b, c, X, W, x, h, g => by
    unfold chkE at h
    split at h
    · simp only [Bool.and_eq_true] at h
      obtain ⟨p1, p2, _⟩ := sndE a h.1 g
      obtain ⟨p3, _, p4⟩ := sndE b h.2 g
      have hw : PW X (.BoolOp .Or (_ :: _ :: _) _) (tT T W (ev2 cf (.or a b)).2) := PW.imp (pw_or p2 (p4 rfl)) fun σ H Q q => by
        obtain ⟨Z, α, ρ, S, hr, re, q⟩ := q
        refine ⟨Z, α, ρ, S, hr, re, (postG.bind q).mono fun t H1 α1 S1 e1 h1 q1 => ?_⟩
        cases t with
        | true => exact iteT (q1 H1 α1 (Ext.refl _ _) h1)
        | false => exact iteF ⟨Z, α1, ρ, S1, h1, re.ext e1, q1⟩
      refine ⟨PE.imp (pe_or p1 p3) fun σ H Q q => ?_, hw.pt, fun _ => hw⟩
      obtain ⟨Z, α, ρ, S, hr, re, q⟩ := q
      refine ⟨Z, α, ρ, S, hr, re, (postG.bind q).mono fun t H1 α1 S1 e1 h1 q1 v r => ?_⟩
      cases t with
      | bl t =>
        cases r
        cases t with
        | true => exact ⟨true, rfl, iteT (q1 H1 α1 (Ext.refl _ _) h1 _ rfl)⟩
        | false => exact ⟨false, rfl, iteF ⟨Z, α1, ρ, S1, h1, re.ext e1, q1⟩⟩
      | _ => exact q1.elim
    · cases h
  | .one a, c, X, W, x, h, g => by
    unfold chkE at h
    split at h
    · rename_i op y pos
      obtain ⟨p1, p2, _⟩ := sndE a h g
      have hw : PW X (.BoolOp op [y] pos) (tT T W (ev2 cf (.one a)).2) := by
        cases op
        · exact pw_and1 p2
        · exact pw_or1 p2
      exact ⟨pe_one p1, hw.pt, fun _ => hw⟩
    · cases h
  | .not a, c, X, W, x, h, g => by
    unfold chkE at h
    split at h
    · obtain ⟨p1, p2, _⟩ := sndE a h g
      refine ⟨PE.imp (pe_notT p1) fun σ H Q q => ?_, PT.imp (pt_not p2) fun σ H Q q => ?_, fun z => nomatch z⟩
      · obtain ⟨Z, α, ρ, S, hr, re, q⟩ := q
        refine ⟨Z, α, ρ, S, hr, re, (postG.bind q).mono fun t H1 α1 S1 e1 h1 q1 v r => ?_⟩
        cases et : truB S1 t with
        | none => rw [et] at q1; exact q1.elim
        | some b =>
          rw [et] at q1
          refine ⟨b, ?_, q1 H1 α1 (Ext.refl _ _) h1 _ rfl⟩
          rw [show X.K = (T.wp Z).K from g.K]
          exact truV_of h1 r et
      · obtain ⟨Z, α, ρ, S, hr, re, q⟩ := q
        exact ⟨Z, α, ρ, S, hr, re, (postG.bind q).mono fun t H1 α1 S1 e1 h1 q1 => q1 H1 α1 (Ext.refl _ _) h1⟩
    · cases h
  | .ite t a b, c, X, W, x, h, g => by
    unfold chkE at h
    split at h
    · simp only [Bool.and_eq_true] at h
      refine ⟨PE.imp (pe_ifExp (sndE t h.1.1 g).2.1 (sndE a h.1.2 g).1 (sndE b h.2 g).1) fun σ H Q q => ?_, ⟨fun pins s σ H Q I q => ?_⟩, fun z => nomatch z⟩
      · obtain ⟨Z, α, ρ, S, hr, re, q⟩ := q
        refine ⟨Z, α, ρ, S, hr, re, (postG.bind q).mono fun t H1 α1 S1 e1 h1 q1 => ?_⟩
        cases t with
        | true => exact iteT ⟨Z, α1, ρ, S1, h1, re.ext e1, q1⟩
        | false => exact iteF ⟨Z, α1, ρ, S1, h1, re.ext e1, q1⟩
      · obtain ⟨Z, α, ρ, S, hr, re, q⟩ := q
        exact q.elim
    · cases h
  | .call f es, c, X, W, x, h, g => by
    unfold chkE at h
    split at h
    · rename_i y p xs pos
      simp only [Bool.and_eq_true, decide_eq_true_eq, Bool.not_eq_true'] at h
      obtain ⟨⟨⟨h1, h2⟩, h3⟩, h4⟩ := h
      obtain ⟨ha, hs⟩ := sndEs es h3 g
      cases xs with
      | nil => cases h4
      | cons e es' =>
        exact pk g.K rfl rfl (call_case (pos := pos) (p := p) g h1 h2 ha hs)
    · cases h
  | .bi b es, c, X, W, x, h, g => by
    unfold chkE at h
    split at h
    · rename_i y p xs pos
      simp only [Bool.and_eq_true, decide_eq_true_eq, Bool.not_eq_true'] at h
      obtain ⟨⟨⟨h1, h2⟩, h3⟩, h4⟩ := h
      obtain ⟨ha, hs⟩ := sndEs es h3 g
      obtain ⟨gl, n1, n2⟩ := g.gl h1
      obtain ⟨id, hb, hr⟩ := bi_rule g b
      subst h2
      cases xs with
      | nil => cases h4
      | cons e es' =>
        refine pk g.K rfl rfl ?_
        exact PE.imp (pe_callB hr gl (g.bn _ b.mem) hb ha n2 n1 (star_eq (hs e List.mem_cons_self)) (star_any fun y hy => hs y (List.mem_cons_of_mem _ hy))) fun σ H Q q => args_op q
    · cases h
  | .bt b es, c, X, W, x, h, g => by
    unfold chkE at h
    split at h
    · rename_i y p xs pos
      simp only [Bool.and_eq_true, decide_eq_true_eq, Bool.not_eq_true'] at h
      obtain ⟨⟨⟨h1, h2⟩, h3⟩, h4⟩ := h
      obtain ⟨ha, hs⟩ := sndEs es h3 g
      obtain ⟨gl, n1, n2⟩ := g.gl h1
      obtain ⟨id, hb, hr⟩ := bt_rule g b
      subst h2
      cases xs with
      | nil => cases h4
      | cons e es' =>
        refine pk g.K rfl rfl ?_
        exact PE.imp (pe_callTy hr gl (g.bn _ b.mem) hb ha n2 n1 (star_eq (hs e List.mem_cons_self)) (star_any fun y hy => hs y (List.mem_cons_of_mem _ hy))) fun σ H Q q => args_op q
    · cases h
  | .mth m o es, c, X, W, x, h, g => by
    unfold chkE at h
    split at h
    · rename_i y n apos xs cpos
      simp only [Bool.and_eq_true, decide_eq_true_eq, Bool.not_eq_true'] at h
      obtain ⟨⟨⟨⟨⟨⟨h1, h2⟩, h3⟩, h4⟩, h5⟩, h6⟩, h7⟩ := h
      obtain ⟨ha, hs⟩ := sndEs es h6 g
      obtain ⟨Ty, id, m1, m2, m3, m4, m5⟩ := mth_rule g m
      subst h1
      have hm : MtR X id (rXM T m.f) := MtR.cases fun x xs H Q ⟨Z, q⟩ => ⟨_, m4 (T.wp Z) rfl, q⟩
      cases xs with
      | nil => cases h7
      | cons e es' =>
        refine pk g.K rfl rfl ?_
        exact PE.imp (pe_bmW m1 m2 m3 hm (sndE o h5 g).1 ha (base_of h2) (by
            rw [star_all hs]
            have : ((e :: es').length + ([] : List Keyword).length + (if ([] : List Keyword).isEmpty then 0 else 1) < 30) := by
              show (e :: es').length + 0 + 0 < 30
              omega
            simp only [decide_eq_true this]
            rfl) h3 (star_eq (hs e List.mem_cons_self)) (star_any fun y hy => hs y (List.mem_cons_of_mem _ hy))) fun σ H Q q => by
          obtain ⟨Z, α, ρ, S, hr, re, q⟩ := q
          refine ⟨Z, α, ρ, S, hr, re, (postG.bind q).mono fun d H1 α1 S1 e1 h1 q1 v r => ?_⟩
          by_cases ho : m.ok S1 d = true
          · rw [if_pos ho] at q1
            refine ⟨m5 (T.wp Z) H1 α1 S1 d v g.K.symm h1 r ho, Z, α1, ρ, S1, h1, re.ext e1, (postG.bind q1).mono fun ds H2 α2 S2 e2 h2 q2 vs rs => ?_⟩
            exact ⟨Z, postG.op h2 (show RepL (T.wp Z) H2 α2 (d :: ds) (v :: vs) from ⟨v, vs, rfl, r.ext e2, rs⟩) q2⟩
          · rw [if_neg ho] at q1
            exact q1.elim
    · cases h
  | .idx a b, c, X, W, x, h, g => by
    unfold chkE at h
    split at h
    · simp only [Bool.and_eq_true] at h
      obtain ⟨⟨h1, h2⟩, h3⟩ := h
      have hu := g.units
      have hr : IxR X (rX2 T idxD) := IxR.cases fun x y H Q ⟨Z, q⟩ => ⟨_, ix_ok (T := T.wp Z) g.K (by omega), q⟩
      refine pk g.K rfl rfl ?_
      exact PE.imp (pe_ix hr (sndE a h2 g).1 (sndE b h3 g).1 (plainIx_of h1)) fun σ H Q q => two_op q
    · cases h
  | .slc a lo hi, c, X, W, x, h, g => by
    unfold chkE at h
    split at h
    · rename_i y l u p2 pos
      simp only [Bool.and_eq_true] at h
      obtain ⟨⟨h1, h2⟩, h3⟩ := h
      have part : ∀ (lo : E) (l : Option Expr), (∀ y, l = some y → lo.isNo = false → PE X y (tE T W (ev2 cf lo).1)) → (match l with | none => lo.isNo | some y => !lo.isNo && chkE c lo y) = true →
          PO X l (tOp' T W fun ρ S => if lo.isNo = true then .ok none S else ((ev2 cf lo).1 ρ S).bind fun y S2 => match y with | .int i => .ok (some i) S2 | _ => .stuck) := by
        intro lo l hy hl
        cases l with
        | none =>
          refine PO.imp po_none fun σ H Q q => ?_
          obtain ⟨Z, α, ρ, S, hr, re, q⟩ := q
          dsimp only at q
          rw [if_pos (show lo.isNo = true from hl)] at q
          exact q H α (Ext.refl _ _) hr
        | some y =>
          simp only [Bool.and_eq_true, Bool.not_eq_true'] at hl
          refine PO.imp (po_some (hy y rfl hl.1)) fun σ H Q q => ?_
          obtain ⟨Z, α, ρ, S, hr, re, q⟩ := q
          dsimp only at q
          rw [if_neg (by rw [hl.1]; exact Bool.false_ne_true)] at q
          refine ⟨Z, α, ρ, S, hr, re, (postG.bind q).mono fun d H1 α1 S1 e1 h1 q1 v r => ?_⟩
          cases d with
          | int i => cases r; exact ⟨i, rfl, q1 H1 α1 (Ext.refl _ _) h1⟩
          | _ => exact q1.elim
      have pl := part lo l (fun y e hn => by subst e; simp only [hn, Bool.not_false, Bool.true_and] at h2; exact (sndE lo h2 g).1) h2
      have pu := part hi u (fun y e hn => by subst e; simp only [hn, Bool.not_false, Bool.true_and] at h3; exact (sndE hi h3 g).1) h3
      have hsl : SlR X (fun x lo hi H Q => ∃ Z, rSlc (T.wp Z) x lo hi H Q) := SlR.cases fun x lo hi H Q ⟨Z, q⟩ => ⟨_, sl_ok (T := T.wp Z) g.K, q⟩
      refine pk g.K rfl rfl ?_
      exact PE.imp (pe_slice hsl (sndE a h1 g).1 pl pu) fun σ H Q q => by
        obtain ⟨Z, α, ρ, S, hr, re, q⟩ := q
        refine ⟨Z, α, ρ, S, hr, re, (postG.bind q).mono fun d H1 α1 S1 e1 h1 q1 v r => ?_⟩
        refine ⟨Z, α1, ρ, S1, h1, re.ext e1, (postG.bind q1).mono fun l H2 α2 S2 e2 h2 q2 => ?_⟩
        refine ⟨Z, α2, ρ, S2, h2, (re.ext e1).ext e2, (postG.bind q2).mono fun u H3 α3 S3 e3 h3 q3 => ?_⟩
        refine ⟨Z, ?_⟩
        cases e : slcF S3 d l u with
        | none => rw [e] at q3; exact q3.elim
        | some rr =>
          rw [e] at q3
          exact ⟨α3, S3, d, rr, h3, (r.ext e2).ext e3, e, fun v' H' α' e' h' r' => q3 H' α' e' h' v' r'⟩
    · cases h
  | .rev a, c, X, W, x, h, g => by
    unfold chkE at h
    split at h
    · refine pk g.K rfl rfl ?_
      exact PE.imp (pe_turn (sndE a h g).1) fun σ H Q q => by
        obtain ⟨Z, α, ρ, S, hr, re, q⟩ := q
        refine ⟨Z, α, ρ, S, hr, re, (postG.bind q).mono fun d H1 α1 S1 e1 h1 q1 v r => ?_⟩
        unfold turnD at q1
        cases ea : asSeq S1 d with
        | none => rw [ea] at q1; exact q1.elim
        | some kes =>
          obtain ⟨k, es⟩ := kes
          rw [ea] at q1
          obtain ⟨a, vs, rfl, rl, sq⟩ := asSeq_ok h1 r ea
          rw [show (T.wp Z).K = X.K from g.K.symm] at sq
          refine ⟨a, vs, rfl, ?_⟩
          cases k with
          | true => exact .inl ⟨by simpa using sq, fun p hp => finL h1 (fun v H' α' e' h' r' => q1 H' α' e' h' v r') rl.reverse hp⟩
          | false => exact .inr ⟨by simpa using sq, fun p hp => finT h1 (fun v H' α' e' h' r' => q1 H' α' e' h' v r') rl.reverse hp⟩
    · cases h
  | .glo y k, c, X, W, x, h, g => by
    unfold chkE at h
    split at h
    · simp only [Bool.and_eq_true, decide_eq_true_eq] at h
      obtain ⟨⟨h1, h2⟩, h3⟩ := h
      subst h2
      obtain ⟨gl, n1, n2⟩ := g.gl h1
      obtain ⟨v, u, m1, m2, m3⟩ := g.gls _ _ h3
      refine pk g.K rfl rfl ?_
      exact PE.imp (pe_glob (v := v) gl m1 m2 n1) fun σ H Q q => by
        obtain ⟨Z, α, ρ, S, hr, re, q⟩ := q
        exact q H α (Ext.refl _ _) hr _ (m3 _ _ _ rfl)
    · cases h
  | .callL i fs es, c, X, W, x, h, g => by
    unfold chkE at h
    split at h
    · rename_i y p xs pos
      simp only [Bool.and_eq_true, Bool.not_eq_true', List.all_eq_true] at h
      obtain ⟨⟨⟨h1, h2⟩, h3⟩, h4⟩ := h
      obtain ⟨ha, hs⟩ := sndEs es h2 g
      cases xs with
      | nil => cases h3
      | cons e es' =>
        exact pk g.K rfl rfl (callL_case (pos := pos) (p := p) g h4 h1 ha hs)
    · cases h
  | .no, c, X, W, x, h, g => by cases h
  | .tup es, c, X, W, x, h, g => by
    unfold chkE at h
    split at h
    · obtain ⟨ha, hs⟩ := sndEs es h g
      refine pk g.K rfl rfl ?_
      exact PE.imp (pe_tup ha) fun σ H Q q => by
        obtain ⟨Z, α, ρ, S, hr, re, q⟩ := q
        refine ⟨Z, α, ρ, S, hr, re, (postG.bind q).mono fun ds H1 α1 S1 e1 h1 q1 vs rs => ?_⟩
        by_cases hl : ds.length ≤ sizeLine
        · rw [if_pos hl] at q1
          exact ⟨by rw [← rs.length]; exact hl, fun p hp => finT h1 (fun v H' α' e' h' r' => q1 H' α' e' h' v r') rs hp⟩
        · rw [if_neg hl] at q1; exact q1.elim
    · cases h
  | .lst es, c, X, W, x, h, g => by
    unfold chkE at h
    split at h
    · obtain ⟨ha, hs⟩ := sndEs es h g
      refine pk g.K rfl rfl ?_
      exact PE.imp (pe_lst ha) fun σ H Q q => by
        obtain ⟨Z, α, ρ, S, hr, re, q⟩ := q
        refine ⟨Z, α, ρ, S, hr, re, (postG.bind q).mono fun ds H1 α1 S1 e1 h1 q1 vs rs => ?_⟩
        by_cases hl : ds.length ≤ sizeLine
        · rw [if_pos hl] at q1
          exact ⟨by rw [← rs.length]; exact hl, fun p hp => finL h1 (fun v H' α' e' h' r' => q1 H' α' e' h' v r') rs hp⟩
        · rw [if_neg hl] at q1; exact q1.elim
    · cases h
  | .lstR es, c, X, W, x, h, g => by
    unfold chkE at h
    split at h
    · obtain ⟨ha, hs⟩ := sndEs es h g
      refine pk g.K rfl rfl ?_
      exact PE.imp (pe_lst ha) fun σ H Q q => by
        obtain ⟨Z, α, ρ, S, hr, re, q⟩ := q
        refine ⟨Z, α, ρ, S, hr, re, (postG.bind q).mono fun ds H1 α1 S1 e1 h1 q1 vs rs => ?_⟩
        by_cases hl : ds.length ≤ sizeLine
        · rw [if_pos hl] at q1
          exact ⟨by rw [← rs.length]; exact hl, fun p hp => finN h1 (fun v H' α' e' h' r' => q1 H' α' e' h' v r') hp ⟨_, rfl, rs⟩⟩
        · rw [if_neg hl] at q1; exact q1.elim
    · cases h
  | .dK, c, X, W, x, h, g => by
    unfold chkE at h
    split at h
    · refine pk g.K rfl rfl ?_
      exact PE.imp pe_dnewK fun σ H Q q => by
        obtain ⟨Z, α, ρ, S, hr, re, q⟩ := q
        exact fun p hp => finN hr (fun v H' α' e' h' r' => q H' α' e' h' v r') hp ⟨_, rfl, rfl⟩
    · cases h
  | .dT, c, X, W, x, h, g => by
    unfold chkE at h
    split at h
    · refine pk g.K rfl rfl ?_
      exact PE.imp pe_dnewT fun σ H Q q => by
        obtain ⟨Z, α, ρ, S, hr, re, q⟩ := q
        exact fun p hp => finN hr (fun v H' α' e' h' r' => q H' α' e' h' v r') hp ⟨_, rfl, rfl⟩
    · cases h
  | .comp p it t elt own, c, X, W, x, h, g => by
    unfold chkE at h
    split at h
    · rename_i y tg iter ifs scope pos
      simp only [Bool.and_eq_true, decide_eq_true_eq] at h
      obtain ⟨⟨⟨⟨⟨⟨⟨h1, h2⟩, h3⟩, h4⟩, h5⟩, h6⟩, h7⟩, h8⟩ := h
      have ok := blkOk_by h2
      have hg := fun s H C cl fp => g.blk ok.kind s H C cl fp
      have hpo : p.ins own = true := by
        cases p with
        | nm i => exact h6
        | tp is => exact h6
        | tl is => exact h6
        | tn ps => exact h6
      refine pk g.K rfl rfl ?_
      exact by
        refine comp_ok g.calm (by rw [g.N]; exact g.nd) (sndIt it h4 g) (by rw [g.N, g.sc]; exact ok) h3 hpo (fun s H C cl fp => (hg s H C cl fp).toN.pat h5) (fun s H C cl fp => ?_) (fun s H C cl fp => (sndE elt h8 (hg s H C cl fp)).1) (fold_of h1)
        cases ifs with
        | nil =>
          have hn : t.isNo = true := h7
          have e : evC cf t = fun ρ S => R.ok true S := by
            funext ρ S
            unfold evC
            rw [if_pos hn]
          rw [e]
          exact ⟨fun pins s σ H Q I q => by
            obtain ⟨Z, α, ρ, S, hr, re, q⟩ := q
            exact pts_nil.run pins s σ H Q I (q H α (Ext.refl _ _) hr)⟩
        | cons z zs =>
          cases zs with
          | nil =>
            simp only [Bool.and_eq_true, Bool.not_eq_true'] at h7
            have e : evC cf t = (ev2 cf t).2 := by
              funext ρ S
              unfold evC
              rw [if_neg (by rw [h7.1]; exact Bool.false_ne_true)]
            rw [e]
            exact pts_one (sndE t h7.2 (hg s H C cl fp)).2.1
          | cons _ _ => cases h7
    · cases h
  | .sset a, c, X, W, x, h, g => by
    unfold chkE at h
    split at h
    · rename_i y p1 z p2 w pos2 pos
      simp only [Bool.and_eq_true, decide_eq_true_eq] at h
      obtain ⟨⟨⟨⟨⟨h1, h2⟩, h3⟩, h4⟩, h5⟩, h6⟩ := h
      subst h3 h4
      obtain ⟨gl, n1, n2⟩ := g.gl h1
      obtain ⟨gl2, m1, m2⟩ := g.gl h2
      have hu := g.units
      refine pk g.K rfl rfl ?_
      have hin := pe_callTy (pos := pos2) (p := p2) (cr_setOfTT g.calm (by omega)) gl2 (g.bn _ (by decide +kernel)) (by decide +kernel) (pa_cons (sndE a h6 g).1 pa_nil (star_eq h5)) m2 m1 (star_eq h5) rfl
      exact PE.imp (pe_callB (pos := pos) (p := p1) (cr_sortedT g.calm) gl (g.bn _ (by decide +kernel)) (by decide +kernel) (pa_cons hin pa_nil) n2 n1) fun σ H Q q => by
        obtain ⟨Z, α, ρ, S, hr, re, q⟩ := q
        refine ⟨Z, α, ρ, S, hr, re, (postG.bind q).mono fun d H1 α1 S1 e1 h1 q1 v r => ?_⟩
        cases es : ssetD S1 d with
        | none => simp only [es] at q1; exact q1.elim
        | some rr =>
          simp only [es] at q1
          exact sset_step (T := T.wp Z) g.K h1 r es fun v' H' α' e' h' r' => q1 H' α' e' h' v' r'
    · cases h
  | .dKs es, c, X, W, x, h, g => by
    unfold chkE at h
    split at h
    · rename_i ks vs pos
      simp only [Bool.and_eq_true, decide_eq_true_eq, Bool.not_eq_true'] at h
      obtain ⟨⟨⟨⟨h1, h2⟩, h3⟩, h4⟩, h5⟩ := h
      obtain ⟨trs, hp, hc⟩ := sndPs es (pos := pos) h5 g
      refine pk g.K rfl rfl ?_
      exact PE.imp (pe_disp hp h1 h2 (by rintro rfl; cases h3) h4) fun σ H Q q p hpn => by
        obtain ⟨Z, α, ρ, S, hr, re, q⟩ := q
        have e0 := Ext.cell hr hpn (.dK [])
        have h0 := hr.push hpn (c := .dK []) (o := .dK []) ⟨[], rfl, rfl⟩
        refine hc _ _ _ ⟨Z, _, ρ, _, h0, re.ext e0, postG.mono (postG.ext e0 (postG.bind q)) fun ds H1 α1 S1 e1 h1 q1 vs rs => ?_⟩
        have ei : α1[S.length]? = some p := e1.get (by rw [← hr.len]; simp)
        cases ec : cellK S1 S.length with
        | none => simp only [ec] at q1; exact q1.elim
        | some kvs0 =>
          cases kvs0 with
          | cons _ _ => simp only [ec] at q1; exact q1.elim
          | nil =>
            cases eu : pairUp ds with
            | none => simp only [ec, eu] at q1; exact q1.elim
            | some kvs =>
              simp only [ec, eu] at q1
              by_cases hl : kvs.length ≤ 15
              · rw [if_pos hl] at q1
                obtain ⟨ws, ev, g2⟩ := pairUp_rep eu rs
                obtain ⟨a, ws0, ea, e5, e6, e7⟩ := cellK_ok h1 (show Rep (T.wp Z) H1 α1 (.ref S.length) (.ref p) from ⟨p, rfl, ei⟩) ec
                cases ea
                cases e7
                refine ⟨ws.map fun kv => (kV kv.1, kv.2), ?_, e6, ws, rfl, by rw [← g2.length]; exact hl, ?_⟩
                · rw [ev]
                  simp [List.flatMap_map]
                · have ew := Ext.write (H := H1) (List.mem_of_getElem? ei) (.dK (mergeK [] ws))
                  exact q1 _ _ ew (h1.write ei ⟨_, rfl, g2.merge rfl⟩ ⟨_, e6, rfl⟩) _ ⟨p, rfl, ei⟩
              · rw [if_neg hl] at q1; exact q1.elim
    · cases h
  | .lk e b, c, X, W, x, h, g => by
    unfold chkE at h
    simp only [Bool.and_eq_true, Bool.not_eq_true'] at h
    exact pk g.K h.1.1 h.1.2 (pe_lk (sndE b h.2 g).1)
  | .meth k m f o es, c, X, W, x, h, g => by
    unfold chkE at h
    split at h
    · rename_i y n apos xs cpos
      simp only [Bool.and_eq_true, decide_eq_true_eq] at h
      obtain ⟨⟨⟨⟨⟨⟨h1, h2⟩, h3⟩, h4⟩, h5⟩, h6⟩, h7⟩ := h
      obtain ⟨ha, hs⟩ := sndEs es h7 g
      subst h1
      unfold Ctx.hasM at h5
      split at h5
      · rename_i cx fl ms ini ek
        obtain ⟨c1, c2, c3, c4, c5⟩ := g.cl _ _ _ _ _ ek
        obtain ⟨hm, hfn⟩ := c4 _ _ (of_decide_eq_true h5)
        obtain ⟨kk, hroom, hall⟩ := g.room
        cases ef : c.fns[f]? with
        | none => rw [ef] at hfn; cases hfn
        | some fn =>
          obtain ⟨fd, ps, np, p1, p2, F, p3, p4, p5⟩ := hall f fn ef
          have hr := hroom.mono (Nat.le_succ kk)
          have conv : ∀ {t : TA}, (∀ σ H Q, tA T W (evs cf es) σ H Q → t σ H Q) → ∀ σ H Q, tE T W (ev2 cf (.meth k m f o es)).1 σ H Q → tMethS (T.ca k) m (spI T np (cf f)) (WE W) (tE T W (ev2 cf o).1) t σ H Q := by
            intro t ht σ H Q q
            obtain ⟨Z, α, ρ, S, hr, re, q⟩ := q
            refine ⟨Z, α, ρ, S, hr, re, (postG.bind q).mono fun d H1 α1 S1 e1 h1 q1 v r => ?_⟩
            cases ei : insOf S1 k d with
            | none => simp only [ei] at q1; exact q1.elim
            | some ifs =>
              obtain ⟨i, fs⟩ := ifs
              simp only [ei] at q1
              obtain ⟨ed, a, dx, ws, rfl, i1, i2, i3⟩ := insOf_ok h1 r ei
              by_cases hl : (look fs m).isNone = true
              · rw [if_pos hl] at q1
                have ro := i3.lookup m
                rw [Option.isNone_iff_eq_none.mp hl] at ro
                refine ⟨a, dx, ws, rfl, i2, ro, ht _ _ _ ⟨Z, α1, ρ, S1, h1, re.ext e1, (postG.bind q1).mono fun ds H2 α2 S2 e2 h2 q2 vs rs => ?_⟩⟩
                exact spI_of (X := X) (ds := .ref i :: ds) p5 h2 (show RepL (T.wp Z) H2 α2 (.ref i :: ds) (.ref a :: vs) from ⟨_, _, rfl, ⟨a, rfl, e2.get i1⟩, rs⟩) q2
              · rw [if_neg hl] at q1; exact q1.elim
          have hfew : ((backTo cpos (starEach xs X.env)).all (fun x => !x.1) && (backToKw cpos (keywordEach [] X.env)).all (fun x => x.1.isSome)
              && decide (xs.length + ([] : List Keyword).length + (if ([] : List Keyword).isEmpty then 0 else 1) < 30)) = true := by
            rw [star_all hs]
            have : (xs.length + ([] : List Keyword).length + (if ([] : List Keyword).isEmpty then 0 else 1) < 30) := by
              show xs.length + 0 + 0 < 30
              omega
            simp only [decide_eq_true this]
            rfl
          refine pk g.K rfl rfl ?_
          cases xs with
          | nil => exact PE.imp (pe_methS0 (E := WE W) (sndE o h6 g).1 c1 hm F hr p4 (fun σ => passAt g.tk σ) (meth_tree (base_of h2) hfew h3)) (conv fun σ H Q q => by
              obtain ⟨Z, α, ρ, S, hr, re, q⟩ := q
              have hev := evs_nil (cf := cf) h7 ρ S
              rw [hev] at q
              exact q H α (Ext.refl _ _) hr [] rfl)
          | cons e es' => exact PE.imp (pe_methS (E := WE W) (sndE o h6 g).1 c1 hm F hr p4 (fun σ => passAt g.tk σ) ha (star_eq (hs e List.mem_cons_self)) (star_any fun y hy => hs y (List.mem_cons_of_mem _ hy)) (meth_tree (base_of h2) hfew h3)) (conv fun σ H Q q => q)
      · cases h5
    · cases h
  | .make k f es, c, X, W, x, h, g => by
    unfold chkE at h
    split at h
    · rename_i y p xs pos
      simp only [Bool.and_eq_true, decide_eq_true_eq, Bool.not_eq_true'] at h
      obtain ⟨⟨⟨h1, h2⟩, h3⟩, h4⟩ := h
      obtain ⟨ha, hs⟩ := sndEs es h3 g
      obtain ⟨gl, n1, n2⟩ := g.gl h1
      unfold Ctx.mkF at h2
      split at h2
      · rename_i cx fl ms ini ek
        simp only [Bool.and_eq_true, decide_eq_true_eq] at h2
        obtain ⟨rfl, rfl⟩ := h2
        obtain ⟨c1, c2, c3, c4, c5, hfn⟩ := g.cl _ _ _ _ _ ek
        obtain ⟨kk, hroom, hall⟩ := g.room
        cases ef : c.fns[ini]? with
        | none => rw [ef] at hfn; cases hfn
        | some fn =>
          obtain ⟨fd, ps, np, p1, p2, F, p3, p4, p5⟩ := hall ini fn ef
          cases xs with
          | nil => cases h4
          | cons e es' =>
            refine pk g.K rfl rfl ?_
            exact PE.imp (pe_makeS (E := WE W) c5 F hroom gl c2 p4 (fun σ => passAt g.tk σ) ha n1 (star_eq (hs e List.mem_cons_self)) (star_any fun y hy => hs y (List.mem_cons_of_mem _ hy))) fun σ H Q q => by
              obtain ⟨Z, α, ρ, S, hr, re, q⟩ := q
              refine ⟨Z, α, ρ, S, hr, re, (postG.bind q).mono fun ds H1 α1 S1 e1 h1 q1 vs rs a dx ha hd hne => ?_⟩
              have hl := h1.laid hd (.own a)
              have el := Ext.laid h1 hd (.own a)
              have ha' : upd H1 dx (.own a) a = none := by rw [upd_ne (Ne.symm hne)]; exact ha
              have hp := hl.push ha' (c := .ins k []) (o := .ins (T.ca k) dx []) ⟨dx, [], rfl, rfl⟩
              have ep := Ext.cell hl ha' (.ins (T.ca k) dx [])
              have ee := el.trans ep
              refine spI_of (X := X) (S := S1 ++ [.ins k []]) (ds := .ref S1.length :: ds) p5 hp (show RepL (T.wp Z) _ (α1 ++ [a]) (.ref S1.length :: ds) (.ref a :: vs) from ⟨_, _, rfl, ⟨a, rfl, by rw [← h1.len]; simp⟩, rs.ext ee⟩) ?_
              cases hc : cf ini (.ref S1.length :: ds) (S1 ++ [.ins k []]) with
              | stuck => rw [hc] at q1; exact q1
              | exc k' S2 => rw [hc] at q1; exact fun H' α' e' hr' => q1 H' α' (ee.trans e') hr'
              | ok d S2 =>
                rw [hc] at q1
                cases d with
                | non => exact fun H' α' e' hr' v rv => ⟨rv, q1 H' α' (ee.trans e') hr' _ ⟨a, rfl, e'.get (by rw [← h1.len]; simp)⟩⟩
                | _ => exact q1.elim
      · cases h2
    · cases h
  | .fld o k n, c, X, W, x, h, g => by
    unfold chkE at h
    split at h
    · simp only [Bool.and_eq_true, decide_eq_true_eq] at h
      obtain ⟨⟨⟨h1, h2⟩, h3⟩, h4⟩ := h
      subst h1
      unfold Ctx.hasF at h3
      split at h3
      · rename_i cx fl ms ini ek
        obtain ⟨c1, c2, c3, c4, c5⟩ := g.cl _ _ _ _ _ ek
        refine pk g.K rfl rfl ?_
        exact PE.imp (pe_fld (sndE o h4 g).1 (base_of h2)) fun σ H Q q => by
          obtain ⟨Z, α, ρ, S, hr, re, q⟩ := q
          refine ⟨Z, α, ρ, S, hr, re, (postG.bind q).mono fun d H1 α1 S1 e1 h1 q1 v r => ?_⟩
          cases ei : insOf S1 k d with
          | none => simp only [ei] at q1; exact q1.elim
          | some ifs =>
            obtain ⟨i, fs⟩ := ifs
            simp only [ei] at q1
            obtain ⟨ed, a, dx, ws, rfl, i1, i2, i3⟩ := insOf_ok h1 r ei
            cases el : look fs n with
            | none => simp only [el] at q1; exact q1.elim
            | some d' =>
              simp only [el] at q1
              have ro := i3.lookup n
              rw [el] at ro
              obtain ⟨v', e5, r5⟩ := ro
              exact ⟨a, _, dx, ws, v', rfl, i2, c1, c3 _ (of_decide_eq_true h3), e5, q1 H1 α1 (Ext.refl _ _) h1 v' r5⟩
      · cases h3
    · cases h
theorem sndPs : ∀ (es : Es) {c : Ctx} {X : Cx} {W : WX} {pos : Pos} {ks : List (Option Expr)} {vs : List Expr}, chkPs c es ks vs = true → Good T cf c X W →
    ∃ trs, PPs X pos ks vs trs ∧ ∀ σ H (Q : List (V × V) → Hp → Prop), tA T W (evs cf es) σ H (fun us H' => ∃ ps : List (V × V), us = ps.flatMap (fun p => [p.1, p.2]) ∧ Q ps H') → tPairs trs σ H Q
  | .nil, c, X, W, pos, ks, vs, h, g => by
    unfold chkPs at h
    split at h
    · refine ⟨[], pps_nil, fun σ H Q q => ?_⟩
      obtain ⟨Z, α, ρ, S, hr, re, q⟩ := q
      obtain ⟨ps, e, q⟩ := q H α (Ext.refl _ _) hr [] rfl
      cases ps with
      | nil => exact q
      | cons p ps => simp at e
    · cases h
  | .cons k (.cons v r), c, X, W, pos, ks, vs, h, g => by
    unfold chkPs at h
    split at h
    · rename_i x ks y vs
      simp only [Bool.and_eq_true] at h
      obtain ⟨trs, hp, hc⟩ := sndPs r (pos := pos) h.2 g
      refine ⟨(tE T W (ev2 cf k).1, tE T W (ev2 cf v).1) :: trs, pps_cons (sndE k h.1.1 g).1 (sndE v h.1.2 g).1 hp, fun σ H Q q => ?_⟩
      obtain ⟨Z, α, ρ, S, hr, re, q⟩ := q
      refine ⟨Z, α, ρ, S, hr, re, (postG.bind q).mono fun d1 H1 α1 S1 e1 h1 q1 v1 r1 => ?_⟩
      refine ⟨Z, α1, ρ, S1, h1, re.ext e1, (postG.bind (postG.bind q1)).mono fun d2 H2 α2 S2 e2 h2 q2 v2 r2 => ?_⟩
      refine hc _ _ _ ⟨Z, α2, ρ, S2, h2, (re.ext e1).ext e2, (postG.bind q2).mono fun ds H3 α3 S3 e3 h3 q3 us rs => ?_⟩
      have q4 := q3 H3 α3 (Ext.refl _ _) h3
      obtain ⟨ps, ep, q5⟩ := q4 H3 α3 (Ext.refl _ _) h3 (v1 :: v2 :: us) ⟨v1, _, rfl, (r1.ext e2).ext e3, v2, us, rfl, r2.ext e3, rs⟩
      cases ps with
      | nil => cases ep
      | cons p ps =>
        simp only [List.flatMap_cons, List.cons_append, List.nil_append, List.cons.injEq] at ep
        obtain ⟨rfl, rfl, rfl⟩ := ep
        exact ⟨ps, rfl, q5⟩
    · cases h
  | .cons _ .nil, c, X, W, pos, ks, vs, h, g => by cases h
theorem sndEs : ∀ (es : Es) {c : Ctx} {X : Cx} {W : WX} {xs : List Expr}, chkEs c es xs = true → Good T cf c X W → PA X xs (tA T W (evs cf es)) ∧ ∀ x ∈ xs, notStar x = true
  | .nil, c, X, W, xs, h, g => by
    unfold chkEs at h
    split at h
    · refine ⟨PA.imp pa_nil fun σ H Q q => ?_, fun x hx => by cases hx⟩
      obtain ⟨Z, α, ρ, S, hr, re, q⟩ := q
      exact q H α (Ext.refl _ _) hr [] rfl
    · cases h
  | .cons e es, c, X, W, xs, h, g => by
    unfold chkEs at h
    split at h
    · simp only [Bool.and_eq_true] at h
      obtain ⟨ha, hs⟩ := sndEs es h.2 g
      refine ⟨PA.imp (pa_cons (sndE e h.1.2 g).1 ha (star_eq h.1.1)) fun σ H Q q => ?_, fun x hx => ?_⟩
      · obtain ⟨Z, α, ρ, S, hr, re, q⟩ := q
        refine ⟨Z, α, ρ, S, hr, re, (postG.bind q).mono fun d H1 α1 S1 e1 h1 q1 v r => ?_⟩
        refine ⟨Z, α1, ρ, S1, h1, re.ext e1, (postG.bind q1).mono fun ds H2 α2 S2 e2 h2 q2 vs rs => ?_⟩
        exact q2 H2 α2 (Ext.refl _ _) h2 (v :: vs) ⟨v, vs, rfl, r.ext e2, rs⟩
      · rcases List.mem_cons.mp hx with rfl | hx
        · exact h.1.1
        · exact hs x hx
    · cases h
theorem sndIt : ∀ (it : NT.It) {c : Ctx} {X : Cx} {W : WX} {tg x : Expr}, chkIt c it tg x = true → Good T cf c X W → PI X tg x (tI T W (evIt cf it))
  | .seq e, c, X, W, tg, x, h, g => by
    refine PI.imp (pi_seq (sndE e h g).1) fun σ H R q => ?_
    obtain ⟨Z, α, ρ, S, hr, re, q⟩ := q
    refine ⟨Z, α, ρ, S, hr, re, (postG.bind q).mono fun d H1 α1 S1 e1 h1 q1 v r => ?_⟩
    cases ea : asSeq S1 d with
    | none => rw [ea] at q1; exact q1.elim
    | some kes =>
      obtain ⟨k, es⟩ := kes
      rw [ea] at q1
      obtain ⟨a, vs, rfl, rl, sq⟩ := asSeq_ok h1 r ea
      have wk := walk_seq (T := T) ea r
      have q2 := q1 H1 α1 (Ext.refl _ _) h1 _ wk
      rw [show (T.wp Z).K = X.K from g.K.symm] at sq
      rw [← g.K] at q2
      refine ⟨a, rfl, ?_⟩
      cases k with
      | true => exact .inl ⟨⟨vs, sq⟩, q2⟩
      | false => exact .inr ⟨⟨vs, sq⟩, q2⟩
  | .range1 a, c, X, W, tg, x, h, g => by
    unfold chkIt at h
    split at h
    · simp only [Bool.and_eq_true, decide_eq_true_eq] at h
      obtain ⟨⟨⟨h1, h2⟩, h3⟩, h4⟩ := h
      subst h2
      obtain ⟨gl, n1, n2⟩ := g.gl h1
      refine PI.imp (pi_range1 gl (g.bn _ (by decide +kernel)) (pa_cons (sndE a h4 g).1 pa_nil (star_eq h3)) (star_eq h3)) fun σ H R q => ?_
      obtain ⟨Z, α, ρ, S, hr, re, q⟩ := q
      refine ⟨Z, α, ρ, S, hr, re, (postG.bind q).mono fun d H1 α1 S1 e1 h1 q1 v r => ?_⟩
      cases d with
      | int j =>
        cases r
        by_cases hj : -(2 ^ 62) ≤ j ∧ j < 2 ^ 62
        · simp only [if_pos hj] at q1
          exact ⟨j, rfl, hj.1, hj.2, q1 H1 α1 (Ext.refl _ _) h1 _ (walk_range 0 j.toNat)⟩
        · simp only [if_neg hj] at q1; exact q1.elim
      | _ => exact q1.elim
    · cases h
  | .range2 a b, c, X, W, tg, x, h, g => by
    unfold chkIt at h
    split at h
    · simp only [Bool.and_eq_true, decide_eq_true_eq] at h
      obtain ⟨⟨⟨⟨⟨h1, h2⟩, h3⟩, h4⟩, h5⟩, h6⟩ := h
      subst h2
      obtain ⟨gl, n1, n2⟩ := g.gl h1
      refine PI.imp (pi_range2 gl (g.bn _ (by decide +kernel)) (pa_cons (sndE a h5 g).1 (pa_cons (sndE b h6 g).1 pa_nil (star_eq h4)) (star_eq h3)) (by rw [star_eq h3, star_eq h4]; rfl) (star_eq h4)) fun σ H R q => ?_
      obtain ⟨Z, α, ρ, S, hr, re, q⟩ := q
      refine ⟨Z, α, ρ, S, hr, re, (postG.bind q).mono fun d H1 α1 S1 e1 h1 q1 v r => ?_⟩
      refine ⟨Z, α1, ρ, S1, h1, re.ext e1, (postG.bind q1).mono fun d2 H2 α2 S2 e2 h2 q2 v2 r2 => ?_⟩
      cases d with
      | int i =>
        cases d2 with
        | int j =>
          cases r; cases r2
          by_cases hj : -(2 ^ 62) ≤ i ∧ i < 2 ^ 62 ∧ -(2 ^ 62) ≤ j ∧ j < 2 ^ 62
          · simp only [if_pos hj] at q2
            exact ⟨i, j, rfl, hj, q2 H2 α2 (Ext.refl _ _) h2 _ (walk_range i _)⟩
          · simp only [if_neg hj] at q2; exact q2.elim
        | _ => exact q2.elim
      | _ => exact q2.elim
    · cases h
  | .zip a b, c, X, W, tg, x, h, g => by
    unfold chkIt at h
    split at h
    · simp only [Bool.and_eq_true, decide_eq_true_eq] at h
      obtain ⟨⟨⟨⟨⟨⟨h0, h1⟩, h2⟩, h3⟩, h4⟩, h5⟩, h6⟩ := h
      subst h2
      obtain ⟨gl, n1, n2⟩ := g.gl h1
      cases tg <;> first | (exfalso; exact absurd (show false = true from h0) Bool.false_ne_true) | skip
      refine PI.imp (RZ.pi_zipA gl (g.bn _ (by decide +kernel)) (pa_cons (sndE a h5 g).1 (pa_cons (sndE b h6 g).1 pa_nil (star_eq h4)) (star_eq h3)) (star_eq h3) (star_any fun y hy => by rw [List.mem_singleton.mp hy]; exact h4)) fun σ H R q => ?_
      obtain ⟨Z, α, ρ, S, hr, re, q⟩ := q
      refine ⟨Z, α, ρ, S, hr, re, (postG.bind q).mono fun d H1 α1 S1 e1 h1 q1 v r => ?_⟩
      refine ⟨Z, α1, ρ, S1, h1, re.ext e1, (postG.bind q1).mono fun d2 H2 α2 S2 e2 h2 q2 v2 r2 => ?_⟩
      cases ea : asSeq S2 d with
      | none => simp only [ea] at q2; exact q2.elim
      | some kes =>
        obtain ⟨k, es⟩ := kes
        cases eb : asSeq S2 d2 with
        | none => simp only [ea, eb] at q2; exact q2.elim
        | some kfs =>
          obtain ⟨l, fs⟩ := kfs
          simp only [ea, eb] at q2
          by_cases hkl : k = l
          · rw [if_pos hkl] at q2
            subst hkl
            obtain ⟨a', vs, rfl, rl, sq⟩ := asSeq_ok h2 (r.ext e2) ea
            obtain ⟨b', ws, rfl, rl2, sq2⟩ := asSeq_ok h2 r2 eb
            have q3 := q2 H2 α2 (Ext.refl _ _) h2 _ (walk_zip (T := T) ea eb (r.ext e2) r2)
            rw [show (T.wp Z).K = X.K from g.K.symm] at sq sq2
            rw [← g.K] at q3
            refine ⟨a', b', vs, ws, rfl, ?_⟩
            cases k with
            | true => exact .inl ⟨sq, sq2, q3⟩
            | false => exact .inr ⟨sq, sq2, q3⟩
          · rw [if_neg hkl] at q2; exact q2.elim
    · cases h
  | .keys e, c, X, W, tg, x, h, g => by
    refine PI.imp (pi_keys (sndE e h g).1) fun σ H R q => ?_
    obtain ⟨Z, α, ρ, S, hr, re, q⟩ := q
    refine ⟨Z, α, ρ, S, hr, re, (postG.bind q).mono fun d H1 α1 S1 e1 h1 q1 v r => ?_⟩
    cases ek : keysF S1 d with
    | none => simp only [ek] at q1; exact q1.elim
    | some es =>
      simp only [ek] at q1
      unfold keysF at ek
      split at ek
      · rename_i i
        obtain ⟨a, rfl, ha⟩ := r
        split at ek
        · rename_i kvs ec
          cases ek
          obtain ⟨a', u, e2, e3, o, u', rfl, ws, rfl, e4⟩ := h1.cell _ _ ec
          rw [ha] at e2; cases e2
          obtain ⟨a'', u2, e5, e6⟩ := h1.fz _ _ ec
          rw [ha] at e5; cases e5
          have e7 := (h1.lck _ _ e6).1
          rw [e3] at e7; cases e7
          exact ⟨a, o, rfl, .inl ⟨ws, e3, q1 H1 α1 (Ext.refl _ _) h1 _ (walk_keysK e6 e4)⟩⟩
        · rename_i kvs ec
          cases ek
          obtain ⟨a', u, e2, e3, o, u', rfl, ws, rfl, e4⟩ := h1.cell _ _ ec
          rw [ha] at e2; cases e2
          obtain ⟨a'', u2, e5, e6⟩ := h1.fz _ _ ec
          rw [ha] at e5; cases e5
          have e7 := (h1.lck _ _ e6).1
          rw [e3] at e7; cases e7
          exact ⟨a, o, rfl, .inr ⟨ws, e3, q1 H1 α1 (Ext.refl _ _) h1 _ (walk_keysT e6 e4)⟩⟩
        · cases ek
      · cases ek
  | .vals e, c, X, W, tg, x, h, g => by
    unfold chkIt at h
    split at h
    · simp only [Bool.and_eq_true, decide_eq_true_eq] at h
      obtain ⟨⟨⟨h1, h2⟩, h3⟩, h4⟩ := h
      subst h1
      refine PI.imp (pi_values (sndE e h4 g).1 (base_of h2) h3) fun σ H R q => ?_
      obtain ⟨Z, α, ρ, S, hr, re, q⟩ := q
      refine ⟨Z, α, ρ, S, hr, re, (postG.bind q).mono fun d H1 α1 S1 e1 h1 q1 v r => ?_⟩
      cases ek : valsF S1 d with
      | none => simp only [ek] at q1; exact q1.elim
      | some es =>
        simp only [ek] at q1
        unfold valsF at ek
        split at ek
        · rename_i i
          obtain ⟨a, rfl, ha⟩ := r
          split at ek
          · rename_i kvs ec
            cases ek
            obtain ⟨a', u, e2, e3, o, u', rfl, ws, rfl, e4⟩ := h1.cell _ _ ec
            rw [ha] at e2; cases e2
            obtain ⟨a'', u2, e5, e6⟩ := h1.fz _ _ ec
            rw [ha] at e5; cases e5
            have e7 := (h1.lck _ _ e6).1
            rw [e3] at e7; cases e7
            exact ⟨a, o, ws, rfl, e3, q1 H1 α1 (Ext.refl _ _) h1 _ (walk_vals e6 e4)⟩
          · cases ek
        · cases ek
    · cases h
end
end
end NT
/-! statements -/
namespace NT
open PySem L2

/-! ### which texts these are -/
/-- the names that a pair of tuples exchanges: none: the model does not say -/
def swapF (sc : Scope) (tg v : Expr) : Option (Option (List Str)) := match tg, v with
  | .Tuple ts _ _, .Tuple vs _ _ =>
    if !(ts.length == 2 || ts.length == 3) || vs.length != ts.length then some none
    else if vs.any fun | .Starred .. => true | _ => false then some none
    else
      let line := (ts.head?.map (·.pos.line)).getD 0
      let names := ts.filterMap fun
        | .Name id pos => if sc.names.lookup id == some .local && pos.line == line then some id else none
        | _ => none
      if names.length != ts.length || names.eraseDups.length != names.length then some none
      else if vs.all (foldedForSure 8) then some none
      else if vs.all (constantsAlone 8) then none
      else some (some names)
  | .List .., _ => none
  | _, _ => some none
theorem swapF_ok {env : PySem.Env} {sc : Scope} {tg v : Expr} {r : Option (List Str)} (hsc : env.scope = sc) (hk : sc.kind = .function) (h : swapF sc tg v = some r) : swappedStores [tg] v env = pure r := by
  have hb : env.blockKind = .function := by unfold Env.blockKind; rw [hsc, hk]; rfl
  have he : ∀ id, env.kindOf id = sc.names.lookup id := fun id => by unfold Env.kindOf; rw [hsc]
  by_cases htt : isTup tg = true ∧ isTup v = true
  case neg =>
    cases tg <;> first
      | (simp only [swapF] at h; cases h; cases v <;> rfl)
      | (simp only [swapF] at h; cases h; done)
      | skip
    cases v <;> first
      | (simp only [swapF] at h; cases h; rfl)
      | (exact absurd ⟨rfl, rfl⟩ htt)
  obtain ⟨ht1, ht2⟩ := htt
  cases tg <;> first | (exfalso; exact absurd (show false = true from ht1) Bool.false_ne_true) | skip
  cases v <;> first | (exfalso; exact absurd (show false = true from ht2) Bool.false_ne_true) | skip
  rename_i ts k1 p1 vs k2 p2
  unfold swappedStores
  simp only [hb, he]
  simp only [swapF] at h
  by_cases c1 : (!(ts.length == 2 || ts.length == 3) || vs.length != ts.length) = true
  · rw [if_pos c1] at h
    cases h
    have c1' : (!(ts.length == 2 || ts.length == 3) || vs.length != ts.length || ScopeKind.function != ScopeKind.function) = true := by rw [c1]; rfl
    exact if_pos c1'
  · rw [if_neg c1] at h
    have c1' : ¬ (!(ts.length == 2 || ts.length == 3) || vs.length != ts.length || ScopeKind.function != ScopeKind.function) = true := by
      intro z
      rw [Bool.or_eq_true] at z
      rcases z with z | z
      · exact c1 z
      · exact absurd z (by decide)
    refine Eq.trans (if_neg c1') ?_
    split at h
    · rename_i c2
      cases h
      exact if_pos c2
    · rename_i c2
      refine Eq.trans (if_neg c2) ?_
      split at h
      · rename_i c3
        cases h
        exact if_pos c3
      · rename_i c3
        refine Eq.trans (if_neg c3) ?_
        split at h
        · rename_i c4
          cases h
          exact if_pos c4
        · rename_i c4
          refine Eq.trans (if_neg c4) ?_
          split at h
          · cases h
          · rename_i c5
            cases h
            exact if_neg c5

/-- whether a comprehension is stored in its own block -/
def swB (sc : Scope) (tg v : Expr) : Bool := match v, tg with
  | .ListComp _ _ s vpos, .Name t pos => sc.names.lookup t == some .local && pos.line == vpos.line && !(s.names.any fun (n, k) => n == t && (k == .local || k == .cell))
  | _, _ => false
theorem sw_false {e : Expr} {t : Option Expr} {l : Nat} {env : PySem.Env} (h : isLc e = false) : swapsWith e t l env = pure false := by
  cases e <;> first | rfl | cases h
def okLc : Expr → Bool
  | .SetComp .. => false
  | .DictComp .. => false
  | _ => true
theorem sw_lc {env : PySem.Env} {sc : Scope} {tg v : Expr} {l : Nat} (hsc : env.scope = sc) (hk : sc.kind = .function) (ho : okLc v = true) (h : swB sc tg v = false) : swapsWithSole [tg] v l env = pure false := by
  have hb : env.blockKind = .function := by unfold Env.blockKind; rw [hsc, hk]; rfl
  have he : ∀ id, env.kindOf id = sc.names.lookup id := fun id => by unfold Env.kindOf; rw [hsc]
  show swapsWith v (some tg) l env = pure false
  by_cases hv : isLc v = true
  · cases v <;> first | (exfalso; exact absurd (show false = true from hv) Bool.false_ne_true) | (exfalso; exact absurd (show false = true from ho) Bool.false_ne_true) | skip
    cases tg <;> first | rfl | skip
    rename_i e gs s vpos t pos
    simp only [swB] at h
    unfold swapsWith
    simp only [hb, he]
    refine congrArg pure ?_
    exact h
  · exact sw_false (by simpa using hv)

section
variable (T : TW) (W : WX)
def postR (H : Hp) (α : List Addr) (r : RS) (D : Ends) : Prop := match r with
  | .ok (.nx ρ) S' => ∀ H' α' σ', Ext H α H' α' → HR T H' α' S' → RepE T H' α' ρ σ' → D.nx σ' H'
  | .ok (.rt d) S' => ∀ H' α' v, Ext H α H' α' → HR T H' α' S' → Rep T H' α' d v → D.rt v H'
  | .ok (.bk ρ) S' => ∀ H' α' σ', Ext H α H' α' → HR T H' α' S' → RepE T H' α' ρ σ' → D.bk σ' H'
  | .ok (.ct ρ) S' => ∀ H' α' σ', Ext H α H' α' → HR T H' α' S' → RepE T H' α' ρ σ' → D.ct σ' H'
  | .exc c ρ S' => ∀ H' α' σ', Ext H α H' α' → HR T H' α' S' → RepE T H' α' ρ σ' → W (.ref (T.ca c)) none σ' H'
  | .stuck => False
def tS (m : NT.Env → Sto → RS) : TS := fun D σ H => ∃ Z α ρ S, HR (T.wp Z) H α S ∧ RepE (T.wp Z) H α ρ σ ∧ postR (T.wp Z) W H α (m ρ S) D
end
section
variable {T : TW} {W : WX} {H : Hp} {α : List Addr}
theorem postR.ext {H1 : Hp} {α1 : List Addr} {r : RS} {D : Ends} (e : Ext H α H1 α1) (h : postR T W H α r D) : postR T W H1 α1 r D := by
  cases r with
  | ok f S => cases f <;> exact fun H' α' x e' hr rr => h H' α' x (e.trans e') hr rr
  | exc c ρ S => exact fun H' α' x e' hr rr => h H' α' x (e.trans e') hr rr
  | stuck => exact h
theorem postR.thn {A : Type} {r : R A} {ρ : NT.Env} {σ : L2.St} {k : A → Sto → RS} {D : Ends} (re : RepE T H α ρ σ) (h : postR T W H α (r.thn ρ k) D) : postG T W σ H α r fun a H' α' S' => postR T W H' α' (k a S') D := by
  cases r with
  | ok a S => exact fun H' α' e hr => postR.ext e h
  | exc c S => exact fun H' α' e hr => h H' α' σ e hr (re.ext e)
  | stuck => exact h
end
theorem PS.imp {X : Cx} {e : Stmt} {t t' : TS} (h : PS X e t) (k : ∀ D σ H, t' D σ H → t D σ H) : PS X e t' := ⟨fun pins s σ H D I q => h.run pins s σ H D I (k _ _ _ q)⟩
theorem PSs.imp {X : Cx} {e : List Stmt} {t t' : TS} (h : PSs X e t) (k : ∀ D σ H, t' D σ H → t D σ H) : PSs X e t' := ⟨fun pins s σ H D I q => h.run pins s σ H D I (k _ _ _ q)⟩

/-! ### the checker -/
def chkA (c : Ctx) (p : Pat) (e : E) (tg v : Expr) : Bool :=
  (match e with | .lk .. => !swB c.sc tg v | _ => true) && chkP c p tg && chkE c e v && okLc v && (match tg with | .Name .. => true | .Tuple .. => true | _ => false) &&
  (match swapF c.sc tg v with
   | none => false
   | some none => true
   | some (some names) => (match p with | .tp is => decide (is.Nodup) && decide (is.map (fun i => c.N[i]?) = names.map some) && names.all fun n => decide (c.sc.names.lookup n = some .local) | _ => false))
/-- the index is no slice -/
def notSl : Expr → Bool
  | .Slice .. => false
  | _ => true
def chkSu (c : Ctx) : Su → Stmt → Bool
  | .set i d => fun z => match z with
    | .Assign [.Name x _] (.Constant k _ _) _ => c.bindable i x && litOk d k
    | _ => false
  | .inc i k => fun z => match z with
    | .Assign [.Name x _] (.BinOp (.Name y _) .Add (.Constant (.int k') _ _) _) _ => c.bindable i x && c.vis i y && decide (k = k')
    | _ => false
  | .ret d => fun z => match z with
    | .Return (some (.Constant k _ _)) _ => litOk d k
    | _ => false
def chkHs (c : Ctx) (es : List Nat) : List (Nat × Su) → List ExceptHandler → Bool
  | [], [] => true
  | (k, su) :: r, .ExceptHandler (some (.Name x _)) none [st] _ :: hds => c.gl x && c.isExc k x && chkSu c su st && chkHs c es r hds
  | _, _ => false
mutual
def chkS (c : Ctx) : NT.St → Stmt → Bool
  | .asg p e => fun z => match z with
    | .Assign [tg] v _ => chkA c p e tg v
    | _ => false
  | .setI o k v => fun z => match z with
    | .Assign [.Subscript x y _] w _ => chkE c o x && chkE c k y && chkE c v w && (okLc w && notSl y)
    | _ => false
  | .exp e => fun z => match z with
    | .Expr x _ => chkE c e x && !isLc x
    | _ => false
  | .ret e => fun z => match z with
    | .Return (some x) _ => chkE c e x
    | _ => false
  | .retN => fun z => match z with
    | .Return none _ => true
    | _ => false
  | .ite t a b => fun z => match z with
    | .If x s r _ => chkE c t x && chkSs c a s && chkSs c b r
    | _ => false
  | .for_ p it b => fun z => match z with
    | .For tg iter body [] _ => notSet iter && chkIt c it tg iter && chkP c p tg && chkSs c b body
    | _ => false
  | .while_ t b => fun z => match z with
    | .While x body [] _ => chkE c t x && chkSs c b body
    | _ => false
  | .brk => fun z => match z with
    | .Break _ => true
    | _ => false
  | .cont => fun z => match z with
    | .Continue _ => true
    | _ => false
  | .pass => fun z => match z with
    | .Pass _ => true
    | _ => false
  | .setF o k n v => fun z => match z with
    | .Assign [.Attribute x m _] w _ => decide (n = m) && c.hasF k n && chkE c o x && chkE c v w && okLc w
    | _ => false
  | .raise_ k => fun z => match z with
    | .Raise (some (.Call (.Name x _) [] [] _)) none _ => c.gl x && c.isExc k x
    | _ => false
  | .try_ es b hs => fun z => match z with
    | .Try body hds [] [] _ => es.all c.isE && chkSs c b body && chkHs c es hs hds && !hds.isEmpty
    | _ => false
  | .lk _ s => fun z => chkS c s z
def chkSs (c : Ctx) : Sts → List Stmt → Bool
  | .nil => fun z => match z with
    | [] => true
    | _ => false
  | .cons s r => fun z => match z with
    | x :: xs => chkS c s x && chkSs c r xs
    | _ => false
end
end NT
/-! the interpreter is right: statements -/
namespace NT
open PySem L2

/-! ### names stored from the right -/
theorem zip_rev {A B : Type} : ∀ (is : List A) (xs : List B), is.length = xs.length → is.reverse.zip xs.reverse = (is.zip xs).reverse
  | [], [], _ => rfl
  | [], _ :: _, h => by simp at h
  | _ :: _, [], h => by simp at h
  | i :: is, x :: xs, h => by
    have h' : is.length = xs.length := by simpa using h
    rw [List.reverse_cons, List.reverse_cons, List.zip_append (by simp [h']), zip_rev is xs h']
    simp
def setV : List Nat → List V → L2.St → L2.St
  | i :: is, v :: vs, σ => setV is vs (σ.set i (some v))
  | _, _, σ => σ
theorem setV_set : ∀ {is : List Nat} {vs : List V} {σ : L2.St} {i : Nat} {v : V}, i ∉ is → setV is vs (σ.set i (some v)) = (setV is vs σ).set i (some v)
  | [], vs, σ, i, v, _ => by cases vs <;> rfl
  | j :: is, [], σ, i, v, _ => rfl
  | j :: is, w :: vs, σ, i, v, h => by
    have hj : i ≠ j := fun e => h (by rw [e]; exact List.mem_cons_self)
    show setV is vs ((σ.set i (some v)).set j (some w)) = _
    rw [List.set_comm _ _ hj, setV_set fun z => h (List.mem_cons_of_mem _ z)]
    rfl
theorem gNames_set {H : Hp} {Q : L2.St → Hp → Prop} : ∀ {is : List Nat} {vs : List V} {σ : L2.St}, gNames is vs σ H Q → Q (setV is vs σ) H
  | [], vs, σ, h => by
    obtain ⟨rfl, q⟩ := h
    exact q
  | i :: is, vs, σ, h => by
    obtain ⟨v, r, rfl, q⟩ := h
    exact gNames_set (is := is) q
theorem gNames_len {H : Hp} {Q : L2.St → Hp → Prop} : ∀ {is : List Nat} {vs : List V} {σ : L2.St}, gNames is vs σ H Q → vs.length = is.length
  | [], vs, σ, h => by
    obtain ⟨rfl, q⟩ := h
    rfl
  | i :: is, vs, σ, h => by
    obtain ⟨v, r, rfl, q⟩ := h
    simp [gNames_len (is := is) q]
section
open PySem.Spec PyProof.Rows
variable {X : Cx}
/-- the names, last first, take their values -/
theorem stores_rev (hN : X.N.Nodup) : ∀ {is : List Nat} {names : List Str} {vs : List V} {us : List Value} {pins : List (Addr × Obj)} {s : Shared} {σ : L2.St} {H : Hp} {Q : Unit → Shared → Prop} {M : Model} {A : Around} {E : Value → Shared → Prop},
    is.map (fun i => X.N[i]?) = names.map some → (∀ n ∈ names, X.env.scope.names.lookup n = some .local) → Vals vs us → vs.length = is.length → L2.Inv X pins σ H s →
    (∀ s', L2.Inv X pins ((is.zip vs).foldl (fun τ p => τ.set p.1 (some p.2)) σ) H s' → Q () s') →
    wpAny M A (assignInOrder (names.map fun n => bindName X.env n) us) Q E s
  | [], names, vs, us, pins, s, σ, H, Q, M, A, E, hn, hl, r, hlen, I, k => by
    cases names with
    | nil =>
      cases r with
      | nil => exact assignInOrder_nil (k s I)
      | cons _ _ => simp at hlen
    | cons _ _ => simp at hn
  | i :: is, names, vs, us, pins, s, σ, H, Q, M, A, E, hn, hl, r, hlen, I, k => by
    cases names with
    | nil => simp at hn
    | cons n names =>
      cases r with
      | nil => simp at hlen
      | cons r1 r2 =>
        rename_i v u vs us
        simp only [List.map_cons, List.cons.injEq] at hn
        have hloc := hl n List.mem_cons_self
        refine assignInOrder_cons (wpAny_bindName (store_ok I hN hn.1 (.inl hloc) r1 (fun s' I' => ?_) (.inr hloc)))
        exact stores_rev hN hn.2 (fun m hm => hl m (List.mem_cons_of_mem _ hm)) r2 (by simpa using hlen) I' k
theorem fold_rev {σ : L2.St} : ∀ {is : List Nat} {vs : List V}, is.Nodup → vs.length = is.length → ((is.zip vs).reverse.foldl (fun τ p => τ.set p.1 (some p.2)) σ) = setV is vs σ
  | [], [], _, _ => rfl
  | [], _ :: _, _, h => by simp at h
  | _ :: _, [], _, h => by simp at h
  | i :: is, v :: vs, hn, h => by
    rw [List.nodup_cons] at hn
    simp only [List.zip_cons_cons, List.reverse_cons, List.foldl_append, List.foldl_cons, List.foldl_nil]
    rw [fold_rev hn.2 (by simpa using h)]
    show _ = setV is vs (σ.set i (some v))
    rw [setV_set hn.1]
theorem ps_swap {tg e : Expr} {te : TE} {is : List Nat} {names : List Str} {pos : Pos} (hcalm : X.calm = true) (hN : X.N.Nodup) (he : PE X e te) (hs : swapsWithSole [tg] e pos.line X.env = pure false) (hw : swappedStores [tg] e X.env = pure (some names))
    (hn : is.map (fun i => X.N[i]?) = names.map some) (hnd : is.Nodup) (hl : ∀ n ∈ names, X.env.scope.names.lookup n = some .local) :
    PS X (.Assign [tg] e pos) (tAsg te (gTup X.K is.length (gNames is))) := by
  refine ⟨fun pins s σ H D I h => ?_⟩
  rw [exec_Assign_arm]
  refine wpAny_bind (wpAny_standAt ?_)
  rw [hs]
  refine wpAny_bind (wpAny_pure ?_)
  rw [if_neg (by decide)]
  refine wpAny_bind (thn (he.run pins s σ H _ I h) fun v s1 ⟨x, H1, I1, r1, q1⟩ => ?_)
  obtain ⟨a, xs, e1, hq, hlen, q1⟩ := q1
  subst e1
  cases r1
  obtain ⟨its, rv, ht, hz⟩ := I1.tuple hq
  rw [hw]
  refine wpAny_bind (wpAny_pure ?_)
  have hnl : names.length = its.toArray.size := by
    have := congrArg List.length hn
    simp only [List.length_map] at this
    rw [List.size_toArray, ← rv.length, hlen, this]
  show wpAny (model X.prog X.w) X.A (do rule "assign.swapped-stores"; let items ← unpackItems (.ref a) names.length none; assignInOrder (names.reverse.map fun n => bindName X.env n) items.reverse; pure Flow.next) _ _ _
  rw [hnl]
  refine wpAny_bind (wpAny_rule (wpAny_bind (unpackItems_tuple (I1.ok.hd hcalm) ht fun h' hx' => ?_)))
  have I2 := I1.kept (h' := h') (t' := s1.toks) fun b o e => hx' b o (Nat.ne_of_lt (Heap.lt_size e)) e
  refine wpAny_bind (stores_rev hN (is := is.reverse) (vs := xs.reverse) (by rw [List.map_reverse, List.map_reverse, hn]) (fun n hm => hl n (by simpa using hm)) (by simpa using Vals.reverse rv) (by simp [hlen]) I2 fun s' I3 => ?_)
  refine wpAny_pure ?_
  have e2 : (is.reverse.zip xs.reverse) = (is.zip xs).reverse := zip_rev is xs hlen.symm
  rw [e2, fold_rev hnd hlen] at I3
  exact ⟨_, _, I3, gNames_set q1⟩
end
end NT
/-! the interpreter is right: statements, defs -/
namespace NT
open PySem L2
section
variable {T : TW} {cf : Nat → List D → Sto → R D}
structure GoodS (T : TW) (cf : Nat → List D → Sto → R D) (c : Ctx) (X : Cx) (W : WX) : Prop extends Good T cf c X W where
  po : PassesOwn (model X.prog X.w) X.A X.env X.xe
  st : X.stack = X.env :: X.outer
  fr : X.env.frame = some X.env.locals
theorem forD_nil {gs : Gs} {body : D → NT.Env → Sto → RS} {ρ : NT.Env} {S : Sto} : forD gs body [] ρ S = (open Classical in if gok gs S then .ok (.nx ρ) S else .stuck) := rfl
theorem forD_cons {gs : Gs} {body : D → NT.Env → Sto → RS} {d : D} {ds : List D} {ρ : NT.Env} {S : Sto} : forD gs body (d :: ds) ρ S = (open Classical in if gok gs S then (match body d ρ S with
    | .ok (.nx ρ') S' => forD gs body ds ρ' S'
    | .ok (.ct ρ') S' => forD gs body ds ρ' S'
    | .ok (.bk ρ') S' => .ok (.nx ρ') S'
    | r => r) else .stuck) := rfl

theorem for_conv {W : WX} {p : Pat} {it : NT.It} {b : Sts} {wf : Nat} {D : Ends} {σ : L2.St} {H : Hp} (h : tS T W (ex cf wf (.for_ p it b)) D σ H) :
    tFor (tI T W (evIt cf it)) (gPat T.K p) (tS T W (exs cf wf b)) D σ H := by
  obtain ⟨Z, α, ρ, S, hr, re, q⟩ := h
  refine ⟨Z, α, ρ, S, hr, re, (postR.thn re q).mono fun ig H1 α1 S1 e1 h1 q1 J wk => ?_⟩
  obtain ⟨items, gs⟩ := ig
  dsimp only at wk q1
  generalize hbody : (fun d ρ1 S2 => match p.bnd d ρ1 with
    | some ρ2 => exs cf wf b ρ2 S2
    | none => RS.stuck) = body at q1
  refine ⟨fun i m σx Hx => m = items.length - i ∧ i ≤ items.length ∧ ∃ αx Sx ρx, Ext H1 α1 Hx αx ∧ HR (T.wp Z) Hx αx Sx ∧ RepE (T.wp Z) Hx αx ρx σx ∧ postR (T.wp Z) W Hx αx (forD gs body (items.drop i) ρx Sx) D,
    ⟨items.length, by simp, Nat.zero_le _, α1, S1, ρ, Ext.refl _ _, h1, re.ext e1, q1⟩, ?_⟩
  rintro i m σx Hx ⟨rfl, hi, αx, Sx, ρx, ex, hx, rx, px⟩
  have hgok : gok gs Sx := by
    by_cases hg : gok gs Sx
    · exact hg
    · exfalso
      cases hdr : items.drop i with
      | nil => rw [hdr, forD_nil, if_neg hg] at px; exact px.elim
      | cons d ds => rw [hdr, forD_cons, if_neg hg] at px; exact px.elim
  have wki := wk Z i Hx αx Sx hi (fun a ha => ha) ex hx (fun d v r => r.ext ex) hgok
  by_cases hlt : i < items.length
  · refine .inr ⟨(wki.1 hlt).1, fun σ' H' => ∃ αx Sx ρx, Ext H1 α1 H' αx ∧ HR (T.wp Z) H' αx Sx ∧ RepE (T.wp Z) H' αx ρx σ' ∧ postR (T.wp Z) W H' αx (forD gs body (items.drop (i + 1)) ρx Sx) D,
      fun σ' H' hh => ⟨items.length - (i + 1), by omega, rfl, hlt, hh⟩, fun xv H' hy => ?_⟩
    obtain ⟨d, hd, ey, hy2, ry⟩ := (wki.1 hlt).2 xv H' hy
    have hdrop : items.drop i = d :: items.drop (i + 1) := by
      rw [List.drop_eq_getElem_cons hlt]
      obtain ⟨_, e⟩ := List.getElem?_eq_some_iff.mp hd
      rw [e]
    rw [hdrop, forD_cons, if_pos hgok] at px
    have rx1 := rx.ext ey
    cases hb : p.bnd d ρx with
    | none =>
      rw [← hbody] at px
      simp only [hb] at px
      exact px.elim
    | some ρ' =>
      obtain ⟨σ', re', gp, _⟩ := bnd_ok hb ry rx1
      refine gp _ ⟨Z, αx, ρ', Sx, hy2, re', ?_⟩
      have eb : body d ρx Sx = exs cf wf b ρ' Sx := by
        rw [← hbody]
        simp only [hb]
      rw [eb] at px
      cases hr2 : exs cf wf b ρ' Sx with
      | stuck => rw [hr2] at px; exact px.elim
      | exc k ρ2 S2 => rw [hr2] at px; exact fun H' α' σ2 e hr rr => px H' α' σ2 (ey.trans e) hr rr
      | ok f S2 =>
        rw [hr2] at px
        cases f with
        | nx ρ2 => exact fun H2 α2 σ2 e2 h2 r2 => ⟨α2, S2, ρ2, (ex.trans ey).trans e2, h2, r2, postR.ext (ey.trans e2) px⟩
        | ct ρ2 => exact fun H2 α2 σ2 e2 h2 r2 => ⟨α2, S2, ρ2, (ex.trans ey).trans e2, h2, r2, postR.ext (ey.trans e2) px⟩
        | bk ρ2 => exact fun H2 α2 σ2 e2 h2 r2 => px H2 α2 σ2 (ey.trans e2) h2 r2
        | rt d2 => exact fun H2 α2 v e2 h2 r2 => px H2 α2 v (ey.trans e2) h2 r2
  · have hi' : i = items.length := by omega
    refine .inl ⟨wki.2 hi', ?_⟩
    subst hi'
    rw [List.drop_length, forD_nil, if_pos hgok] at px
    exact px Hx αx σx (Ext.refl _ _) hx rx

theorem while_conv {W : WX} {t : E} {b : Sts} {wf : Nat} {D : Ends} {σ : L2.St} {H : Hp} (h : tS T W (ex cf wf (.while_ t b)) D σ H) :
    tWhile (tT T W (ev2 cf t).2) (tS T W (exs cf wf b)) D σ H := by
  obtain ⟨Z, α, ρ, S, hr, re, q⟩ := h
  refine ⟨fun m σx Hx => ∃ αx Sx ρx, HR (T.wp Z) Hx αx Sx ∧ RepE (T.wp Z) Hx αx ρx σx ∧ postR (T.wp Z) W Hx αx (whileD (evT cf t) (exs cf wf b) m ρx Sx) D, ⟨wf, α, S, ρ, hr, re, q⟩, ?_⟩
  rintro m σx Hx ⟨αx, Sx, ρx, hx, rx, px⟩
  cases m with
  | zero => exact px.elim
  | succ m =>
    refine ⟨Z, αx, ρx, Sx, hx, rx, (postR.thn rx px).mono fun bb H1 α1 S1 e1 h1 q1 => ?_⟩
    cases bb with
    | false =>
      refine iteF ?_
      exact q1 H1 α1 σx (Ext.refl _ _) h1 (rx.ext e1)
    | true =>
      refine iteT ⟨fun σ' H' => ∃ αx Sx ρx, HR (T.wp Z) H' αx Sx ∧ RepE (T.wp Z) H' αx ρx σ' ∧ postR (T.wp Z) W H' αx (whileD (evT cf t) (exs cf wf b) m ρx Sx) D, fun σ' H' hh => ⟨m, Nat.lt_succ_self _, hh⟩, Z, α1, ρx, S1, h1, rx.ext e1, ?_⟩
      rw [if_pos rfl] at q1
      cases hr2 : exs cf wf b ρx S1 with
      | stuck => rw [hr2] at q1; exact q1.elim
      | exc k ρ2 S2 => rw [hr2] at q1; exact q1
      | ok f S2 =>
        rw [hr2] at q1
        cases f with
        | nx ρ2 => exact fun H2 α2 σ2 e2 h2 r2 => ⟨α2, S2, ρ2, h2, r2, postR.ext e2 q1⟩
        | ct ρ2 => exact fun H2 α2 σ2 e2 h2 r2 => ⟨α2, S2, ρ2, h2, r2, postR.ext e2 q1⟩
        | bk ρ2 => exact q1
        | rt d2 => exact q1

theorem asg_conv {W : WX} {p : Pat} {e : E} {wf : Nat} {D : Ends} {σ : L2.St} {H : Hp} (h : tS T W (ex cf wf (.asg p e)) D σ H) : tAsg (tE T W (ev2 cf e).1) (gPat T.K p) D σ H := by
  obtain ⟨Z, α, ρ, S, hr, re, q⟩ := h
  refine ⟨Z, α, ρ, S, hr, re, (postR.thn re q).mono fun d H1 α1 S1 e1 h1 q1 v r => ?_⟩
  cases hb : p.bnd d ρ with
  | none => simp only [hb] at q1; exact q1.elim
  | some ρ' =>
    simp only [hb] at q1
    obtain ⟨σ', re', gp, _⟩ := bnd_ok hb r (re.ext e1)
    exact gp _ (q1 H1 α1 σ' (Ext.refl _ _) h1 re')

theorem asg_ok {c : Ctx} {X : Cx} {W : WX} (g : Good T cf c X W) {p : Pat} {e : E} {tg v : Expr} {pos : Pos} {wf : Nat} (h : chkA c p e tg v = true) : PS X (.Assign [tg] v pos) (tS T W (ex cf wf (.asg p e))) := by
  unfold chkA at h
  simp only [Bool.and_eq_true] at h
  obtain ⟨⟨⟨⟨⟨h0, h1⟩, h2⟩, h3⟩, h4⟩, h5⟩ := h
  have nd : X.N.Nodup := by rw [g.N]; exact g.nd
  by_cases hsw : swB c.sc tg v = true
  · -- a comprehension, stored in its own block
    cases v <;> first | (exfalso; cases tg <;> exact absurd (show false = true from hsw) Bool.false_ne_true) | skip
    cases tg <;> first | (exfalso; exact absurd (show false = true from hsw) Bool.false_ne_true) | skip
    rename_i y gs scope vpos n npos
    cases e <;> (unfold chkE at h2) <;> first
      | (exfalso; exact absurd (show false = true from h2) Bool.false_ne_true)
      | (exfalso; simp only [hsw] at h0; cases h0; done)
      | skip
    rename_i p' it t elt own
    split at h2
    · rename_i y tg iter ifs scope pos' heq
      cases heq
      simp only [Bool.and_eq_true, decide_eq_true_eq] at h2
      obtain ⟨⟨⟨⟨⟨⟨⟨a1, a2⟩, a3⟩, a4⟩, a5⟩, a6⟩, a7⟩, a8⟩ := h2
      have ok := blkOk_by a2
      have hg := fun s H C cl fp => g.blk ok.kind s H C cl fp
      have hpo : p'.ins own = true := by
        cases p' with
        | nm i => exact a6
        | tp is => exact a6
        | tl is => exact a6
        | tn ps => exact a6
      have pts : ∀ (s : Shared) (H : Hp) (C : Addr) (cl : List (Str × Addr)) (fp : List Addr), PTs (X.blk s H scope (compEnvC scope cl C X.env) fp) ifs (tT T W0 (evC cf t)) := by
        intro s H C cl fp
        cases ifs with
        | nil =>
          have hn : t.isNo = true := a7
          have e : evC cf t = fun ρ S => R.ok true S := by
            funext ρ S
            unfold evC
            rw [if_pos hn]
          rw [e]
          exact ⟨fun pins s σ H Q I q => by
            obtain ⟨Z, α, ρ, S, hr, re, q⟩ := q
            exact pts_nil.run pins s σ H Q I (q H α (Ext.refl _ _) hr)⟩
        | cons z zs =>
          cases zs with
          | nil =>
            simp only [Bool.and_eq_true, Bool.not_eq_true'] at a7
            have e : evC cf t = (ev2 cf t).2 := by
              funext ρ S
              unfold evC
              rw [if_neg (by rw [a7.1]; exact Bool.false_ne_true)]
            rw [e]
            exact pts_one (sndE t a7.2 (hg s H C cl fp)).2.1
          | cons _ _ => cases a7
      cases p with
      | tp is => exact absurd (show false = true from h1) Bool.false_ne_true
      | tl is => exact absurd (show false = true from h1) Bool.false_ne_true
      | tn ps => exact absurd (show false = true from h1) Bool.false_ne_true
      | nm i =>
        have hb : c.bindable i n = true := h1
        unfold Ctx.bindable at hb
        simp only [Bool.and_eq_true, decide_eq_true_eq] at hb
        simp only [swB, Bool.and_eq_true, Bool.not_eq_true', beq_iff_eq] at hsw
        obtain ⟨⟨w1, w2⟩, w3⟩ := hsw
        have hl : X.env.scope.names.lookup n = some .local := by rw [g.sc]; exact w1
        refine PS.imp (ps_setLc (i := i) g.calm nd (by rw [g.N]; exact hb.1) hl (sw_true (by rw [g.sc]; exact g.kind) hl (by rw [w2]; simp) w3) (sndIt it a4 g) (by rw [g.N, g.sc]; exact ok) (fun s H C cl fp => (hg s H C cl fp).toN.pat a5) pts (fun s H C cl fp => (sndE elt a8 (hg s H C cl fp)).1) (fold_of a1)) fun D σ H q => ?_
        have q' : tE T W (ev2 cf (.comp p' it t elt own)).1 σ H fun x H1 => gName i x σ H1 D.nx := asg_conv (p := .nm i) q
        show tLc _ _ _ _ _ σ H _
        rw [a3]
        exact comp_conv hpo q'
    · cases h2
  · have hsw' : swB c.sc tg v = false := by simpa using hsw
    have hs := sw_lc (l := pos.line) g.sc g.kind h3 hsw'
    have he := (sndE e h2 g).1
    have hp := g.toN.pat h1
    have ha : (assignEach [tg] X.env).map (·.2) = [assign tg X.env] := by
      cases tg <;> first | rfl | (exfalso; exact absurd (show false = true from h4) Bool.false_ne_true)
    cases hf : swapF c.sc tg v with
    | none => rw [hf] at h5; cases h5
    | some o =>
      cases o with
      | none => exact PS.imp (ps_asg he hp hs (swapF_ok g.sc g.kind hf) ha) fun D σ H q => asg_conv q
      | some names =>
        rw [hf] at h5
        cases p with
        | nm i => cases h5
        | tl is => cases h5
        | tn ps => cases h5
        | tp is =>
          simp only [Bool.and_eq_true, decide_eq_true_eq, List.all_eq_true] at h5
          have := ps_swap (pos := pos) (is := is) g.calm nd he hs (swapF_ok g.sc g.kind hf) (by rw [g.N]; exact h5.1.2) h5.1.1 (fun n hn => by rw [g.sc]; exact h5.2 n hn)
          rw [g.K] at this
          exact PS.imp this fun D σ H q => asg_conv q

/-! ### raise, try, locks -/
theorem lit_ok {d : D} {k : Const} (h : litOk d k = true) : ∃ v, (∀ (X : Cx) (j : Nat) (pos : Pos), PE X (.Constant k j pos) (tC v)) ∧ ∀ (T' : TW) H α, Rep T' H α d v := by
  unfold litOk at h
  split at h
  · exact ⟨.non, fun _ _ _ => pe_non, fun _ _ _ => rfl⟩
  · have := eq_of_beq h; subst this; exact ⟨_, fun _ _ _ => pe_bl, fun _ _ _ => rfl⟩
  · have := eq_of_beq h; subst this; exact ⟨_, fun _ _ _ => pe_int, fun _ _ _ => rfl⟩
  · have := eq_of_beq h; subst this; exact ⟨_, fun _ _ _ => pe_str, fun _ _ _ => rfl⟩
  · cases h
theorem vis_ok {c : Ctx} {X : Cx} (N : X.N = c.N) (sc : X.env.scope = c.sc) {i : Nat} {x : Str} {pos : Pos} (h : c.vis i x = true) : PE X (.Name x pos) (tVar i) := by
  unfold Ctx.vis at h
  simp only [Bool.and_eq_true, decide_eq_true_eq] at h
  obtain ⟨⟨h1, h2⟩, h3⟩ := h
  obtain ⟨n1, n2, n3⟩ := okName_iff h1
  refine pe_var (by rw [N]; exact h2) ?_ n1 n2
  unfold Vis
  rw [sc]
  split at h3
  · exact .inl (by assumption)
  · exact .inr (.inl (by assumption))
  · exact .inr (.inr (by assumption))
  · cases h3
theorem su_ok {c : Ctx} {X : Cx} (N : X.N = c.N) (nd : c.N.Nodup) (sc : X.env.scope = c.sc) (fnl : X.fn = c.fnl) (K : X.K = T.K) (kind : c.sc.kind = .function) : ∀ {su : Su} {st : Stmt}, chkSu c su st = true → PSs X [st] (tS T W0 su.run)
  | .set i d, st, h => by
    simp only [chkSu] at h
    split at h
    · simp only [Bool.and_eq_true] at h
      obtain ⟨v, hp, hv⟩ := lit_ok h.2
      refine PSs.imp (pss_cons (ps_asg (hp _ _ _) (name_ok N nd sc fnl h.1) rfl rfl rfl) pss_nil) fun D σ H q => ?_
      obtain ⟨Z, α, ρ, S, hr, re, q⟩ := q
      exact q H α (σ.set i (some v)) (Ext.refl _ _) hr (re.set i (hv _ _ _))
    · cases h
  | .inc i k, st, h => by
    simp only [chkSu] at h
    split at h
    · simp only [Bool.and_eq_true, decide_eq_true_eq] at h
      obtain ⟨⟨h1, h2⟩, rfl⟩ := h
      refine PSs.imp (pss_cons (ps_asg (pe_op (OpR.rX fun T' hT => op_add' (T := T') (K.trans hT.symm)) (vis_ok N sc h2) pe_int) (name_ok N nd sc fnl h1) rfl rfl rfl) pss_nil) fun D σ H q => ?_
      obtain ⟨Z, α, ρ, S, hr, re, q⟩ := q
      have q' : postR (T.wp Z) W0 H α (match ρ[i]? with
        | some (some (.int n)) => .ok (.nx (ρ.set i (some (.int (n + k))))) S
        | _ => .stuck) D := q
      cases ei : ρ[i]? with
      | none => rw [ei] at q'; exact q'.elim
      | some o =>
        cases o with
        | none => rw [ei] at q'; exact q'.elim
        | some d =>
          cases d with
          | int n =>
            rw [ei] at q'
            obtain ⟨v, e1, r1⟩ := re.2 i _ ei
            cases r1
            refine ⟨.int n, e1, Z, α, S, [.int n, .int k], .int (n + k), S, hr, ⟨_, _, rfl, rfl, _, _, rfl, rfl, rfl⟩, rfl, fun v H' α' e' h' r' => ?_⟩
            exact q' H' α' (σ.set i (some v)) e' h' ((re.ext e').set i r')
          | _ => rw [ei] at q'; exact q'.elim
    · cases h
  | .ret d, st, h => by
    simp only [chkSu] at h
    split at h
    · obtain ⟨v, hp, hv⟩ := lit_ok h
      refine PSs.imp (pss_cons (ps_ret (hp _ _ _)) pss_nil) fun D σ H q => ?_
      obtain ⟨Z, α, ρ, S, hr, re, q⟩ := q
      exact q H α v (Ext.refl _ _) hr (hv _ _ _)
    · cases h
theorem su_post {W W' : WX} {H : Hp} {α : List Addr} {D : Ends} {T : TW} {ρ : NT.Env} {S : Sto} : ∀ {su : Su}, postR T W H α (su.run ρ S) D → postR T W' H α (su.run ρ S) D
  | .set _ _, h => h
  | .ret _, h => h
  | .inc i k, h => by
    have h' : postR T W H α (match ρ[i]? with
        | some (some (.int n)) => .ok (.nx (ρ.set i (some (.int (n + k))))) S
        | _ => .stuck) D := h
    show postR T W' H α (match ρ[i]? with
        | some (some (.int n)) => .ok (.nx (ρ.set i (some (.int (n + k))))) S
        | _ => .stuck) D
    split
    · rename_i n e
      rw [e] at h'
      exact h'
    · rename_i ne
      split at h'
      · rename_i n e
        exact absurd e (ne n)
      · exact h'
theorem hds_ok {c : Ctx} {X : Cx} {W : WX} (g : GoodS T cf c X W) {es : List Nat} : ∀ {hs : List (Nat × Su)} {hds : List ExceptHandler}, chkHs c es hs hds = true →
    ∃ l, HdsOk X hds l ∧ ∀ (Z : PZ) (D : Ends) (k : Nat) (ρ : NT.Env) (S : Sto) (H : Hp) (α : List Addr), c.isE k = true → postR (T.wp Z) W H α (match hs.find? (fun h => decide (h.1 = k)) with | some h => h.2.run ρ S | none => .exc k ρ S) D →
      ∀ H' α' σ', Ext H α H' α' → HR (T.wp Z) H' α' S → RepE (T.wp Z) H' α' ρ σ' → wMany X.K W D l (.ref (T.ca k)) none σ' H'
  | [], [], _ => ⟨[], .nil, fun Z D k ρ S H α _ q H' α' σ' e hr re => q H' α' σ' e hr re⟩
  | [], _ :: _, h => by cases h
  | _ :: _, [], h => by cases h
  | (j, su) :: hs, hd :: hds, h => by
    unfold chkHs at h
    split at h
    · rename_i e1 e2
      cases e1
    · rename_i j' su' r x p st pos hds' e1 e2
      cases e1; cases e2
      simp only [Bool.and_eq_true] at h
      obtain ⟨⟨⟨h1, h2⟩, h3⟩, h4⟩ := h
      obtain ⟨l, ok, hl⟩ := hds_ok g h4
      obtain ⟨gl, n1, n2⟩ := g.toGood.gl h1
      unfold Ctx.isExc at h2
      split at h2
      · rename_i y ej
        have hy := of_decide_eq_true h2
        subst hy
        obtain ⟨m1, m2, m3, m4, m5⟩ := g.ex _ _ ej
        refine ⟨(.ref (T.ca j), fun _ _ _ => tS T W0 su.run) :: l, .cons ⟨gl, n1, .inl m1⟩ (fun a oe cls d pn _ _ => su_ok (X := X.suite a ((a, oe) :: pn)) g.N g.nd g.sc g.fnl g.K g.kind h3) ok, fun Z D k ρ S H α hk q H' α' σ' e hr re => ?_⟩
        unfold Ctx.isE at hk
        split at hk
        · rename_i z ez
          refine ⟨decide (k = j), (g.ex _ _ ez).2.2.2.2 _ _ ej, fun hb a ha => ?_, fun hb => ?_⟩
          · have ekj := of_decide_eq_true hb
            subst ekj
            rw [List.find?_cons_of_pos (by simp)] at q
            exact ⟨Z, α', ρ, S, hr, re, su_post (W := W) (postR.ext e q)⟩
          · have ekj : ¬ k = j := of_decide_eq_false hb
            rw [List.find?_cons_of_neg (by simpa using fun z => ekj z.symm)] at q
            exact hl Z D k ρ S H α (by unfold Ctx.isE; rw [ez]) q H' α' σ' e hr re
        · cases hk
      · cases h2
    · cases h
theorem ps_lk {X : Cx} {W : WX} {x : Stmt} {m : NT.Env → Sto → RS} {mi : NT.Env → Sto → R D} (hp : PS X x (tS T W m)) : PS X x (tS T W fun ρ S => lkRS (mi ρ S) S (m ρ)) := by
  refine ⟨fun pins s σ H Dd I h => ?_⟩
  obtain ⟨Z, α, ρ, S, hr, re, q⟩ := h
  dsimp only at q
  unfold lkRS at q
  split at q
  · rename_i i S0 _
    split at q
    · exact hp.run pins s σ H Dd I ⟨Z, α, ρ, S, hr, re, q⟩
    · split at q
      · rename_i S1 e1
        refine (ps_lock hp).run pins s σ H Dd I ?_
        obtain ⟨a, u, ha, hu, mu, lk⟩ := lkd_ok hr e1
        refine ⟨a, u, hu, mu, fun od => ?_⟩
        obtain ⟨h1, hz⟩ := lk od
        have hm := List.mem_of_getElem? ha
        refine ⟨(a, some (.frz od u)) :: Z, α, ρ, S1, h1, re.tr (Tr.lock hr hm _ _), ?_⟩
        split at q
        · rename_i f S2 e2
          split at q
          · rename_i S3 e3
            rw [e2]
            cases f with
            | rt d =>
              intro H' α' v e' h' r
              have ha' := e'.get ha
              obtain ⟨h3, hf⟩ := unlkd_ok h' ha' hz e3
              exact ⟨hf, q _ _ v (Ext.unlock hm e') h3 (r.tr (Tr.unlock h' (List.mem_of_getElem? ha') u))⟩
            | nx ρ' =>
              intro H' α' σ' e' h' r
              have ha' := e'.get ha
              obtain ⟨h3, hf⟩ := unlkd_ok h' ha' hz e3
              exact ⟨hf, q _ _ σ' (Ext.unlock hm e') h3 (r.tr (Tr.unlock h' (List.mem_of_getElem? ha') u))⟩
            | bk ρ' =>
              intro H' α' σ' e' h' r
              have ha' := e'.get ha
              obtain ⟨h3, hf⟩ := unlkd_ok h' ha' hz e3
              exact ⟨hf, q _ _ σ' (Ext.unlock hm e') h3 (r.tr (Tr.unlock h' (List.mem_of_getElem? ha') u))⟩
            | ct ρ' =>
              intro H' α' σ' e' h' r
              have ha' := e'.get ha
              obtain ⟨h3, hf⟩ := unlkd_ok h' ha' hz e3
              exact ⟨hf, q _ _ σ' (Ext.unlock hm e') h3 (r.tr (Tr.unlock h' (List.mem_of_getElem? ha') u))⟩
          · exact q.elim
        · exact q.elim
      · exact q.elim
  · exact q.elim
mutual
theorem sndS (wf : Nat) : ∀ (st : NT.St) {c : Ctx} {X : Cx} {W : WX} {x : Stmt}, chkS c st x = true → GoodS T cf c X W → PS X x (tS T W (ex cf wf st))
  | .asg p e, c, X, W, x, h, g => by
    unfold chkS at h
    split at h
    · exact asg_ok g.toGood h
    · cases h
  | .setI o k v, c, X, W, x, h, g => by
    unfold chkS at h
    split at h
    · simp only [Bool.and_eq_true] at h
      obtain ⟨⟨⟨h1, h2⟩, h3⟩, h4, h5⟩ := h
      have hu := g.toGood.units
      have hset : PSet X (fun o k v H Q => ∃ Z, rSet (T.wp Z) o k v H Q) := PSet.cases fun o k v H Q ⟨Z, q⟩ => ⟨_, set_ok (T := T.wp Z) (by omega), q⟩
      refine PS.imp (ps_asg (sndE v h3 g.toGood).1 (pg_sub (sndE o h1 g.toGood).1 (sndE k h2 g.toGood).1 hset (fun v => by rename_i y _ _ _; cases y <;> first | rfl | cases h5)) (sw_lc g.sc g.kind h4 (by unfold swB; split <;> first | rfl | (rename_i e; cases e))) rfl rfl) fun D σ H q => ?_
      obtain ⟨Z, α, ρ, S, hr, re, q⟩ := q
      refine ⟨Z, α, ρ, S, hr, re, (postR.thn re q).mono fun d1 H1 α1 S1 e1 h1 q1 v1 r1 => ?_⟩
      refine ⟨Z, α1, ρ, S1, h1, re.ext e1, (postR.thn (re.ext e1) q1).mono fun d2 H2 α2 S2 e2 h2 q2 v2 r2 => ?_⟩
      refine ⟨Z, α2, ρ, S2, h2, (re.ext e1).ext e2, (postR.thn ((re.ext e1).ext e2) q2).mono fun d3 H3 α3 S3 e3 h3 q3 v3 r3 => ?_⟩
      refine ⟨Z, ?_⟩
      cases hs : setS S3 d2 d3 d1 with
      | none => rw [hs] at q3; exact q3.elim
      | some S4 =>
        rw [hs] at q3
        exact ⟨α3, S3, d2, d3, d1, S4, h3, r2.ext e3, r3, (r1.ext e2).ext e3, hs, fun H' α' e' h' => q3 H' α' σ e' h' ((((re.ext e1).ext e2).ext e3).ext e')⟩
    · cases h
  | .exp e, c, X, W, x, h, g => by
    unfold chkS at h
    split at h
    · simp only [Bool.and_eq_true, Bool.not_eq_true'] at h
      refine PS.imp (ps_expr (sndE e h.1 g.toGood).1 (sw_false h.2)) fun D σ H q => ?_
      obtain ⟨Z, α, ρ, S, hr, re, q⟩ := q
      exact ⟨Z, α, ρ, S, hr, re, (postR.thn re q).mono fun d1 H1 α1 S1 e1 h1 q1 v1 r1 => q1 H1 α1 σ (Ext.refl _ _) h1 (re.ext e1)⟩
    · cases h
  | .ret e, c, X, W, x, h, g => by
    unfold chkS at h
    split at h
    · refine PS.imp (ps_ret (sndE e h g.toGood).1) fun D σ H q => ?_
      obtain ⟨Z, α, ρ, S, hr, re, q⟩ := q
      exact ⟨Z, α, ρ, S, hr, re, (postR.thn re q).mono fun d1 H1 α1 S1 e1 h1 q1 v1 r1 => q1 H1 α1 v1 (Ext.refl _ _) h1 r1⟩
    · cases h
  | .retN, c, X, W, x, h, g => by
    unfold chkS at h
    split at h
    · refine PS.imp ps_retN fun D σ H q => ?_
      obtain ⟨Z, α, ρ, S, hr, re, q⟩ := q
      exact q H α .non (Ext.refl _ _) hr rfl
    · cases h
  | .ite t a b, c, X, W, x, h, g => by
    unfold chkS at h
    split at h
    · simp only [Bool.and_eq_true] at h
      refine PS.imp (ps_if (sndE t h.1.1 g.toGood).2.1 (sndSs wf a h.1.2 g) (sndSs wf b h.2 g)) fun D σ H q => ?_
      obtain ⟨Z, α, ρ, S, hr, re, q⟩ := q
      refine ⟨Z, α, ρ, S, hr, re, (postR.thn re q).mono fun t H1 α1 S1 e1 h1 q1 => ?_⟩
      cases t with
      | true => exact iteT ⟨Z, α1, ρ, S1, h1, re.ext e1, q1⟩
      | false => exact iteF ⟨Z, α1, ρ, S1, h1, re.ext e1, q1⟩
    · cases h
  | .for_ p it b, c, X, W, x, h, g => by
    unfold chkS at h
    split at h
    · simp only [Bool.and_eq_true] at h
      obtain ⟨⟨⟨h1, h2⟩, h3⟩, h4⟩ := h
      exact PS.imp (ps_for g.po g.calm (sndIt it h2 g.toGood) (g.toGood.toN.pat h3) (sndSs wf b h4 g) (fold_of h1)) fun D σ H q => for_conv q
    · cases h
  | .while_ t b, c, X, W, x, h, g => by
    unfold chkS at h
    split at h
    · simp only [Bool.and_eq_true] at h
      exact PS.imp (ps_while g.po (sndE t h.1 g.toGood).2.1 (sndSs wf b h.2 g)) fun D σ H q => while_conv q
    · cases h
  | .brk, c, X, W, x, h, g => by
    unfold chkS at h
    split at h
    · refine PS.imp ps_break fun D σ H q => ?_
      obtain ⟨Z, α, ρ, S, hr, re, q⟩ := q
      exact q H α σ (Ext.refl _ _) hr re
    · cases h
  | .cont, c, X, W, x, h, g => by
    unfold chkS at h
    split at h
    · refine PS.imp ps_continue fun D σ H q => ?_
      obtain ⟨Z, α, ρ, S, hr, re, q⟩ := q
      exact q H α σ (Ext.refl _ _) hr re
    · cases h
  | .pass, c, X, W, x, h, g => by
    unfold chkS at h
    split at h
    · refine PS.imp ps_pass fun D σ H q => ?_
      obtain ⟨Z, α, ρ, S, hr, re, q⟩ := q
      exact q H α σ (Ext.refl _ _) hr re
    · cases h
  | .setF o k n v, c, X, W, x, h, g => by
    unfold chkS at h
    split at h
    · rename_i y m' apos w pos
      simp only [Bool.and_eq_true, decide_eq_true_eq] at h
      obtain ⟨⟨⟨⟨h1, h2⟩, h3⟩, h4⟩, h5⟩ := h
      subst h1
      unfold Ctx.hasF at h2
      split at h2
      · rename_i cx fl ms ini ek
        have hF := of_decide_eq_true h2
        obtain ⟨c1, c2, c3, c4, c5⟩ := g.cl _ _ _ _ _ ek
        have hsw : swapsWithSole [.Attribute y n apos] w pos.line X.env = pure false := sw_lc g.sc g.kind h5 (by unfold swB; split <;> first | rfl | (rename_i e; cases e))
        refine PS.imp (ps_fld (sndE o h3 g.toGood).1 (sndE v h4 g.toGood).1 hsw) fun D σ H q => ?_
        obtain ⟨Z, α, ρ, S, hr, re, q⟩ := q
        refine ⟨Z, α, ρ, S, hr, re, (postR.thn re q).mono fun d1 H1 α1 S1 e1 h1 q1 v1 r1 => ?_⟩
        refine ⟨Z, α1, ρ, S1, h1, re.ext e1, (postR.thn (re.ext e1) q1).mono fun d2 H2 α2 S2 e2 h2 q2 v2 r2 => ?_⟩
        cases ei : insOf S2 k d2 with
        | none => simp only [ei] at q2; exact q2.elim
        | some ifs =>
          obtain ⟨i, fs⟩ := ifs
          simp only [ei] at q2
          obtain ⟨ed, a, dx, ws, rfl, i1, i2, i3⟩ := insOf_ok h2 r2 ei
          by_cases hl : fs.length < 1000
          · rw [if_pos hl] at q2
            have ew := Ext.write (H := H2) (List.mem_of_getElem? i1) (.ins (T.ca k) dx (putF n v1 ws))
            exact ⟨a, _, dx, ws, rfl, i2, c1, c3 _ hF, by rw [← i3.length]; exact hl, q2 _ _ σ ew (h2.write i1 ⟨dx, _, rfl, RepKV.putFD (r1.ext e2) n i3⟩ ⟨_, i2, rfl⟩) (((re.ext e1).ext e2).ext ew)⟩
          · rw [if_neg hl] at q2; exact q2.elim
      · cases h2
    · cases h
  | .raise_ k, c, X, W, x, h, g => by
    unfold chkS at h
    split at h
    · simp only [Bool.and_eq_true] at h
      obtain ⟨gl, n1, n2⟩ := g.toGood.gl h.1
      have h2 := h.2
      unfold Ctx.isExc at h2
      split at h2
      · rename_i y ej
        have hy := of_decide_eq_true h2
        subst hy
        obtain ⟨m1, m2, m3, m4, m5⟩ := g.ex _ _ ej
        refine PS.imp (ps_raise g.calm g.tk (pmk_own0 PySem.F.excBase_ValueError m2 m1 m3 m4 gl n1)) fun D σ H q => ?_
        obtain ⟨Z, α, ρ, S, hr, re, q⟩ := q
        exact q H α σ (Ext.refl _ _) hr re
      · cases h2
    · cases h
  | .try_ es b hs, c, X, W, x, h, g => by
    unfold chkS at h
    split at h
    · rename_i body hds pos
      simp only [Bool.and_eq_true, List.all_eq_true, Bool.not_eq_true'] at h
      obtain ⟨⟨⟨h1, h2⟩, h3⟩, h4⟩ := h
      cases hds with
      | nil => cases h4
      | cons hd hds =>
        obtain ⟨l, ok, hl⟩ := hds_ok g h3
        refine PS.imp (ps_try_many (tb := fun W' => tS T W' (exs cf wf b)) g.st g.fr g.tk (fun W' pn xe tk po => sndSs wf b h2
          { N := g.N, nd := g.nd, sc := g.sc, kind := g.kind, fnl := g.fnl, K := g.K, calm := g.calm, room := g.room, gls := g.gls, bn := g.bn, ex := g.ex, cl := g.cl, tk := tk, po := po, st := g.st, fr := g.fr }) ok) fun D σ H q => ?_
        obtain ⟨Z, α, ρ, S, hr, re, q⟩ := q
        refine ⟨Z, α, ρ, S, hr, re, ?_⟩
        have q' : postR (T.wp Z) W H α (tryRS es hs (exs cf wf b ρ S)) D := q
        cases hx : exs cf wf b ρ S with
        | stuck => rw [hx] at q'; exact q'.elim
        | ok f S2 =>
          rw [hx] at q'
          cases f <;> exact q'
        | exc k ρ2 S2 =>
          rw [hx] at q'
          have q2 : postR (T.wp Z) W H α (if k ∈ es then (match hs.find? (fun h => decide (h.1 = k)) with
            | some h => h.2.run ρ2 S2
            | none => .exc k ρ2 S2) else .stuck) D := q'
          by_cases hk : k ∈ es
          · rw [if_pos hk] at q2
            exact fun H' α' σ' e hr' re' => hl Z D k ρ2 S2 H α (h1 k hk) q2 H' α' σ' e hr' re'
          · rw [if_neg hk] at q2
            exact q2.elim
    · cases h
  | .lk e s, c, X, W, x, h, g => by
    unfold chkS at h
    exact ps_lk (sndS wf s h g)
theorem sndSs (wf : Nat) : ∀ (sts : Sts) {c : Ctx} {X : Cx} {W : WX} {xs : List Stmt}, chkSs c sts xs = true → GoodS T cf c X W → PSs X xs (tS T W (exs cf wf sts))
  | .nil, c, X, W, xs, h, g => by
    unfold chkSs at h
    split at h
    · refine PSs.imp pss_nil fun D σ H q => ?_
      obtain ⟨Z, α, ρ, S, hr, re, q⟩ := q
      exact q H α σ (Ext.refl _ _) hr re
    · cases h
  | .cons s r, c, X, W, xs, h, g => by
    unfold chkSs at h
    split at h
    · simp only [Bool.and_eq_true] at h
      refine PSs.imp (pss_cons (sndS wf s h.1 g) (sndSs wf r h.2 g)) fun D σ H q => ?_
      obtain ⟨Z, α, ρ, S, hr, re, q⟩ := q
      refine ⟨Z, α, ρ, S, hr, re, ?_⟩
      have q' : postR (T.wp Z) W H α ((ex cf wf s ρ S).seq fun ρ' S' => exs cf wf r ρ' S') D := q
      cases hx : ex cf wf s ρ S with
      | stuck => rw [hx] at q'; exact q'.elim
      | exc k ρ2 S2 => rw [hx] at q'; exact q'
      | ok f S2 =>
        rw [hx] at q'
        cases f with
        | nx ρ2 => exact fun H' α' σ' e hr rr => ⟨Z, α', ρ2, S2, hr, rr, postR.ext e q'⟩
        | rt d => exact q'
        | bk ρ2 => exact q'
        | ct ρ2 => exact q'
    · cases h
end
end
end NT
/-! the interpreter is right: defs, laws -/
namespace NT
open PySem L2

/-- one def: its name, its text, its names in order, its parameters, its body in small -/
structure FI where
  nm : Str
  st : Stmt
  N : List Str
  ps : List Str
  body : Sts
  /-- the class whose method it is -/
  cls : Option Str := none
def FI.gn (fi : FI) : Option Str := match fi.cls with
  | none => some fi.nm
  | some _ => none
def FI.at_ (fi : FI) : Str × Option Str := match fi.cls with
  | none => (fi.nm, none)
  | some C => (C, some fi.nm)
def FI.qual (fi : FI) : Str := match fi.cls with
  | none => fi.nm
  | some C => C ++ "." ++ fi.nm
def FI.dd (fi : FI) : He.DefD := ⟨fi.at_, fi.nm, fi.qual, defArgs fi.st, defBody fi.st, defScope fi.st, [], []⟩
/-- what a law's text stands on -/
structure Prg where
  F : List FI
  G : List (Str × Cst)
  C : List ClsI := []
def Prg.cx (P : Prg) (fi : FI) : Ctx := ⟨fi.N, defScope fi.st, fun _ => true, P.F.map FI.gn, P.G, P.C⟩
/-- the methods stand where the classes say -/
def Prg.okC (P : Prg) : Bool := P.C.all fun
  | .exc _ => true
  | .ins x _ ms ini => (ms.all fun m => match P.F[m.2]? with
      | some fi => decide (fi.cls = some x) && decide (fi.nm = m.1)
      | none => false) && (match P.F[ini]? with
      | some fi => decide (fi.cls = some x) && decide (fi.nm = "__init__")
      | none => false)
structure FI.Ok (P : Prg) (fi : FI) : Prop where
  sc : FnScope fi.N fi.ps (defScope fi.st)
  bd : ∀ (kV doc pm : Value) (an : Option Addr) (cdv ct : Value) (us : List Value), us.length = fi.ps.length → bindArgs (PySem.W.fnOf fi.nm fi.qual (defArgs fi.st) (defBody fi.st) (defScope fi.st) .none kV doc pm an cdv ct) ⟨us, []⟩ = pure (fi.ps.zip us)
  chk : chkSs (P.cx fi) fi.body (defBody fi.st) = true
def callR : RS → R D
  | .ok (.nx _) S => .ok .non S
  | .ok (.rt d) S => .ok d S
  | .exc c _ S => .exc c S
  | _ => .stuck
noncomputable def run (F : List FI) (wf : Nat) : Nat → Nat → List D → Sto → R D
  | 0, _, _, _ => .stuck
  | n + 1, f, ds, S => match F[f]? with
    | none => .stuck
    | some fi => if ds.length = fi.ps.length then callR (exs (run F wf n) wf fi.body (ds.map some ++ List.replicate (fi.N.length - ds.length) none) S) else .stuck
theorem run_len {F : List FI} {wf n f : Nat} {fi : FI} (h : F[f]? = some fi) {ds : List D} (S : Sto) (hl : ds.length ≠ fi.ps.length) : run F wf n f ds S = .stuck := by
  cases n with
  | zero => rfl
  | succ n =>
    show (match F[f]? with
    | none => .stuck
    | some fi => if ds.length = fi.ps.length then callR (exs (run F wf n) wf fi.body (ds.map some ++ List.replicate (fi.N.length - ds.length) none) S) else .stuck) = R.stuck
    rw [h]
    exact if_neg hl
theorem RepE.start {T : TW} {H : Hp} {α : List Addr} {ds : List D} {vs : List V} {N : List Str} (h : RepL T H α ds vs) : RepE T H α (ds.map some ++ List.replicate (N.length - ds.length) none) (L2.start N vs) := by
  have hl := RepL.length h
  refine ⟨by simp [L2.start, hl], fun i d q => ?_⟩
  by_cases hi : i < ds.length
  · rw [List.getElem?_append_left (by simpa using hi), List.getElem?_map] at q
    cases e : ds[i]? with
    | none => rw [e] at q; cases q
    | some d' =>
      rw [e] at q
      cases q
      obtain ⟨v, e1, e2⟩ := RepL.get h e
      refine ⟨v, ?_, e2⟩
      unfold L2.start
      rw [List.getElem?_append_left (by simpa [← hl] using hi), List.getElem?_map, e1]
      rfl
  · rw [List.getElem?_append_right (by simpa using hi)] at q
    rw [List.getElem?_replicate] at q
    split at q <;> cases q

section
variable {P : Program} {w : World} {K : PySem.W.Frag} {mg : Str → Option Value} {base : Heap}
/-! ### what the top has written -/
/-- the facts that a head is to tell -/
def excsOf (C : List ClsI) : List (Nat × Str) := C.zipIdx.filterMap fun p => match p.1 with
  | .exc x => some (p.2, x)
  | _ => none
theorem mem_excsOf {C : List ClsI} {i : Nat} {x : Str} (h : C[i]? = some (.exc x)) : (i, x) ∈ excsOf C := by
  unfold excsOf
  refine List.mem_filterMap.mpr ⟨(.exc x, i), ?_, rfl⟩
  exact List.mem_zipIdx_iff_getElem?.mpr h
def ClsI.facts : ClsI → List He.Fa
  | .exc x => [.glo x, .exc x]
  | .ins x fl ms _ => [.glo x, .cls x, .mkr x] ++ (fl.map (He.Fa.noat x) ++ ms.map fun m => He.Fa.meth x m.1)
def fa0 (P : Prg) : List He.Fa := P.F.filterMap (fun fi => fi.gn.map He.Fa.glo) ++ (bnames.map He.Fa.free ++ (P.C.flatMap ClsI.facts ++ (excsOf P.C).flatMap fun p => (excsOf P.C).map fun q => He.Fa.exm p.2 q.2 (decide (p.1 = q.1))))
def fn0 (F : List FI) : List He.DefD := F.map FI.dd
def cstB (K : PySem.W.Frag) (x : Str) : Cst → Bool
  | .int i => (He.Fa.int x i).ok K
  | .str z => (He.Fa.str x z).ok K
  | .tup is => (He.Fa.glo x).ok K && He.tupB K x (is.map He.Dv.int)
def topB (Pr : Prg) (K : PySem.W.Frag) : Bool := ((fa0 Pr).all fun f => f.ok K) && Pr.G.all fun g => cstB K g.1 g.2
/-- the hook: what is read of the head -/
def obsN (Pr : Prg) (K : PySem.W.Frag) : He.AlD := (topB Pr K && (fn0 Pr.F).all fun d => d.ok K, (fn0 Pr.F).map fun d => He.fnW K d.at_)
def obsNG (n : Nat) (Pr : Prg) (g : Addr → Option Obj) : He.AlD := obsN Pr (He.frG g (He.asD g n))
def SaysN (Pr : Prg) (K : PySem.W.Frag) : Prop := obsN Pr K = He.valD (fn0 Pr.F)
def hookN (n : Nat) (Pr : Prg) : PySem.W.Hook where
  α := He.AlD
  obs := fun s => obsNG n Pr s.heap.get?
  val := fun _ => He.valD (fn0 Pr.F)
  says := fun _ h => ∃ K : PySem.W.Frag, K.In h ∧ SaysN Pr K
  of := fun _ _ e => ⟨_, He.frG_in, e⟩
  keeps := fun _ _ _ ⟨K, hK, c⟩ k => ⟨K, PySem.W.Frag.In.keeps hK k, c⟩
theorem obsNG_eq {n : Nat} {Pr : Prg} {g : Addr → Option Obj} {s : Shared} (h : ∀ a, g a = s.heap.get? a) : obsNG n Pr g = (hookN n Pr).obs s := by
  have e : g = s.heap.get? := funext h
  rw [e] <;> rfl
theorem SaysN.top {Pr : Prg} (c : SaysN Pr K) : topB Pr K = true := (Bool.and_eq_true_iff.mp (show (topB Pr K && (fn0 Pr.F).all fun d => d.ok K) = true from congrArg (fun z : He.AlD => z.1) c)).1
theorem SaysN.fact {Pr : Prg} (c : SaysN Pr K) {f : He.Fa} (h : f ∈ fa0 Pr) : f.ok K = true :=
  List.all_eq_true.mp (Bool.and_eq_true_iff.mp c.top).1 f h
theorem SaysN.cls {Pr : Prg} (c : SaysN Pr K) {i : Nat} {ci : ClsI} (h : Pr.C[i]? = some ci) {f : He.Fa} (hf : f ∈ ci.facts) : f.ok K = true :=
  c.fact (List.mem_append_right _ (List.mem_append_right _ (List.mem_append_left _ (List.mem_flatMap.mpr ⟨ci, List.mem_of_getElem? h, hf⟩))))
theorem SaysN.exm {Pr : Prg} (c : SaysN Pr K) {i j : Nat} {x y : Str} (hi : Pr.C[i]? = some (.exc x)) (hj : Pr.C[j]? = some (.exc y)) : (He.Fa.exm x y (decide (i = j))).ok K = true :=
  c.fact (List.mem_append_right _ (List.mem_append_right _ (List.mem_append_right _ (List.mem_flatMap.mpr ⟨(i, x), mem_excsOf hi, List.mem_map.mpr ⟨(j, y), mem_excsOf hj, rfl⟩⟩))))
theorem SaysN.def_ {Pr : Prg} (c : SaysN Pr K) (i : Nat) {d : He.DefD} (h : (fn0 Pr.F)[i]? = some d) : ∃ fd, FunD K d.name d.qual d.params d.body d.scope (d.dvs K) (d.kws K) (He.fAd K d.at_) fd := by
  have c2 := (Bool.and_eq_true_iff.mp (show (topB Pr K && (fn0 Pr.F).all fun d => d.ok K) = true from congrArg (fun z : He.AlD => z.1) c)).2
  have e : (fn0 Pr.F).map (fun d => He.fnW K d.at_) = (fn0 Pr.F).map He.DefD.val := congrArg (fun z : He.AlD => z.2) c
  have e2 : ((fn0 Pr.F).map fun d => He.fnW K d.at_)[i]? = ((fn0 Pr.F).map He.DefD.val)[i]? := by rw [e]
  rw [List.getElem?_map, List.getElem?_map, h] at e2
  exact He.DefD.funD (Option.some.inj e2) (List.all_eq_true.mp c2 d (List.mem_of_getElem? h))
def tw0 (K : PySem.W.Frag) (P : Prg) : TW := { K := K, fa := fun i => match P.F[i]? with | some fi => He.fAd K fi.at_ | none => 0, ca := fun i => match P.C[i]? with | some ci => He.ga K ci.nm | none => 0 }
/-- what the top has written of the defs -/
structure Tops (T : TW) (mg : Str → Option Value) (Pr : Prg) : Prop where
  fn : ∀ (i : Nat) (fi : FI), Pr.F[i]? = some fi → fi.Ok Pr ∧ (∀ x, fi.gn = some x → mg x = some (.ref (T.fa i))) ∧ ∃ fd, FunD T.K fi.nm fi.qual (defArgs fi.st) (defBody fi.st) (defScope fi.st) [] [] (T.fa i) fd
  bn : ∀ x ∈ bnames, mg x = none
  gls : ∀ x k, (x, k) ∈ Pr.G → ∃ v u, mg x = some u ∧ RelV v u ∧ ∀ (T' : TW) H α, T'.K = T.K → Rep T' H α k.d v
  ex : ∀ i x, Pr.C[i]? = some (.exc x) → mg x = some (.ref (T.ca i)) ∧ PySem.W.excIn T.K (T.ca i) He.veBase "ValueError.__new__" = true ∧ PySem.W.keepIn T.K (.ref (T.ca i)) = true ∧
    (PySem.W.subIn T.K (.ref (T.ca i)) (.type "BaseException") = some true ∧ PySem.W.typeIn T.K (.ref (T.ca i)) = some (.type "type")) ∧
    ∀ j y, Pr.C[j]? = some (.exc y) → PySem.W.exmOne T.K (.ref (T.ca i)) (.ref (T.ca j)) = some (decide (i = j))
  cl : ∀ i x fl ms ini, Pr.C[i]? = some (.ins x fl ms ini) → Cls T.K (T.ca i) ∧ mg x = some (.ref (T.ca i)) ∧ (∀ f ∈ fl, NoAttr T.K (T.ca i) f) ∧ (∀ m f, (m, f) ∈ ms → Meth T.K (T.ca i) m (T.fa f) ∧ ((Pr.F.map FI.gn)[f]?).isSome = true) ∧ Mk T.K (T.ca i) (T.fa ini) ∧ ((Pr.F.map FI.gn)[ini]?).isSome = true
theorem relAll_T {T' : TW} {H : Hp} {α : List Addr} : ∀ is : List Int, RepL T' H α (is.map D.int) ((is.map He.Dv.int).map (He.Dv.v T'.K))
  | [] => rfl
  | i :: is => ⟨_, _, rfl, rfl, relAll_T is⟩
theorem wrT_of {x : Str} {vs : List He.Dv} (h : He.tupB K x vs = true) : WrT K (He.ga K x) (vs.map (He.Dv.v K)) := by
  unfold He.tupB at h
  split at h
  · rename_i c od its n osl q
    simp only [Bool.and_eq_true, decide_eq_true_eq] at h
    obtain ⟨h1, h2, h3⟩ := h
    subst h1
    exact ⟨_, its, n, q, rfl, rfl, h2, He.relAll_ok h3⟩
  · cases h
theorem cst_ok {h : Heap} {x : Str} {k : Cst} (X : K.In h) (G : h.Ns mainGlobals mg) (c : cstB K x k = true) : ∃ v u, mg x = some u ∧ RelV v u ∧ ∀ (T' : TW) H α, T'.K = K → Rep T' H α k.d v := by
  cases k with
  | int i =>
    obtain ⟨t, e⟩ := He.int_ok X G c
    exact ⟨.int i, _, e, ⟨t, rfl⟩, fun _ _ _ _ => rfl⟩
  | str z =>
    obtain ⟨t, e⟩ := He.str_ok X G c
    exact ⟨.str z, _, e, ⟨t, rfl⟩, fun _ _ _ _ => rfl⟩
  | tup is =>
    obtain ⟨c1, c2⟩ := Bool.and_eq_true_iff.mp (show ((He.Fa.glo x).ok K && He.tupB K x (is.map He.Dv.int)) = true from c)
    refine ⟨.ref (He.ga K x), _, He.glo_ok X G c1, rfl, fun T' H α hT => ?_⟩
    subst hT
    exact ⟨_, _, rfl, .inr (wrT_of c2), relAll_T is⟩
theorem tops_of {h : Heap} {Pr : Prg} (X : K.In h) (G : h.Ns mainGlobals mg) (ok : ∀ fi ∈ Pr.F, fi.Ok Pr) (hC : Pr.okC = true) (c : SaysN Pr K) : Tops (tw0 K Pr) mg Pr := by
  have ca : ∀ {i : Nat} {ci : ClsI}, Pr.C[i]? = some ci → (tw0 K Pr).ca i = He.ga K ci.nm := fun {i ci} hi => by
    show (match Pr.C[i]? with | some ci => He.ga K ci.nm | none => 0) = _
    rw [hi]
  have fa : ∀ {i : Nat} {fi : FI}, Pr.F[i]? = some fi → (tw0 K Pr).fa i = He.fAd K fi.at_ := fun {i fi} hi => by
    show (match Pr.F[i]? with | some fi => He.fAd K fi.at_ | none => 0) = _
    rw [hi]
  refine ⟨fun i fi hi => ?_, fun x hx => ?_, fun x k hk => ?_, fun i x hi => ?_, fun i x fl ms ini hi => ?_⟩
  · refine ⟨ok fi (List.mem_of_getElem? hi), fun x hx => ?_, ?_⟩
    · rw [fa hi]
      have hf : He.Fa.glo x ∈ fa0 Pr := List.mem_append_left _ (List.mem_filterMap.mpr ⟨fi, List.mem_of_getElem? hi, by rw [hx]; rfl⟩)
      have e := He.glo_ok X G (c.fact hf)
      unfold FI.gn at hx
      split at hx
      · rename_i hc
        cases hx
        have ea : fi.at_ = (fi.nm, none) := by unfold FI.at_; rw [hc]
        rw [ea]
        exact e
      · cases hx
    · obtain ⟨fd, hfd⟩ := c.def_ i (d := fi.dd) (by unfold fn0; rw [List.getElem?_map, hi]; rfl)
      rw [fa hi]
      exact ⟨fd, hfd⟩
  · exact He.free_ok X G (c.fact (f := .free x) (List.mem_append_right _ (List.mem_append_left _ (List.mem_map.mpr ⟨x, hx, rfl⟩))))
  · exact cst_ok X G (List.all_eq_true.mp (Bool.and_eq_true_iff.mp c.top).2 (x, k) hk)
  · rw [ca hi]
    have e1 := He.glo_ok X G (c.cls hi (f := .glo x) (by simp [ClsI.facts]))
    obtain ⟨e2, e3, e4, e5⟩ := He.exc_ok (c.cls hi (f := .exc x) (by simp [ClsI.facts]))
    refine ⟨e1, e2, e3, ⟨e4, e5⟩, fun j y hj => ?_⟩
    rw [ca hj]
    exact He.exm_ok (c.exm hi hj)
  · have hm := List.all_eq_true.mp hC _ (List.mem_of_getElem? hi)
    simp only [Bool.and_eq_true, List.all_eq_true] at hm
    have e1 := He.glo_ok X G (c.cls hi (f := .glo x) (by simp [ClsI.facts]))
    have e2 := He.cls_ok (c.cls hi (f := .cls x) (by simp [ClsI.facts]))
    have e3 := He.mkr_ok (c.cls hi (f := .mkr x) (by simp [ClsI.facts]))
    have gf : ∀ {m : Str} {f : Nat}, (match Pr.F[f]? with
      | some fi => decide (fi.cls = some x) && decide (fi.nm = m)
      | none => false) = true → (tw0 K Pr).fa f = He.ma K (He.ga K x) m ∧ ((Pr.F.map FI.gn)[f]?).isSome = true := fun {m f} h => by
      split at h
      · rename_i fi hf
        simp only [Bool.and_eq_true, decide_eq_true_eq] at h
        obtain ⟨h1, h2⟩ := h
        refine ⟨?_, by rw [List.getElem?_map, hf]; rfl⟩
        rw [fa hf]
        have ea : fi.at_ = (x, some m) := by unfold FI.at_; rw [h1, h2]
        rw [ea]
        rfl
      · cases h
    rw [ca hi]
    refine ⟨e2, e1, fun f hf => He.noat_ok (c.cls hi (f := .noat x f) ?_), fun m f hf => ?_, ?_, (gf hm.2).2⟩
    · simp [ClsI.facts, hf]
    · obtain ⟨g1, g2⟩ := gf (hm.1 (m, f) hf)
      refine ⟨?_, g2⟩
      rw [g1]
      refine He.meth_ok (c.cls hi (f := .meth x m) ?_)
      simp only [ClsI.facts, List.mem_append, List.mem_map]
      exact .inr (.inr ⟨(m, f), hf, rfl⟩)
    · rw [(gf hm.2).1]
      exact e3
theorem fn_run {T : TW} {Pr : Prg} (wf : Nat) (tp : Tops T mg Pr) : ∀ (n i : Nat) (fi : FI) (fd : FuncData), Pr.F[i]? = some fi → FunD T.K fi.nm fi.qual (defArgs fi.st) (defBody fi.st) (defScope fi.st) [] [] (T.fa i) fd →
    FnOk P w T.K mg base (L2.CX P w) (2 * n) (T.fa i) fd fi.ps (spI T fi.ps.length (run Pr.F wf n i)) := by
  intro n
  induction n with
  | zero =>
    intro i fi fd hi Fd
    exact ⟨fun vs H Q E h => h.1, fun A outer s H args us vs Q E hr e0 hb r hsp => by
      obtain ⟨_, Z, α, S, ds, _, _, q⟩ := hsp
      exact q.elim⟩
  | succ n ih =>
    intro i fi fd hi Fd
    obtain ⟨fok, hmg, _⟩ := tp.fn i fi hi
    rw [show 2 * (n + 1) = (2 * n + 1) + 1 from by omega]
    refine Fd.ok fok.sc (fun vs H Q E h => h.1) (fun cdv A outer s H vs Q E hr h => ?_)
    obtain ⟨hlv, Z, α, S, ds, hh, rl, q⟩ := h
    have hld := RepL.length rl
    have g : GoodS T (run Pr.F wf n) (Pr.cx fi) (cxOf (L2.CX P w) P w T.K mg base fi.N fi.qual (defScope fi.st) (T.fa i) cdv A outer s H E) (fun cls d _ H => E cls d H) := by
      refine { N := rfl, nd := fok.sc.nd, sc := rfl, kind := fok.sc.kind, fnl := rfl, K := rfl, calm := rfl, room := ⟨2 * n, hr, fun f x hf => ?_⟩, bn := fun x hx => tp.bn x hx, gls := tp.gls, ex := fun i x hi => ?_, cl := tp.cl, tk := takes_of rfl rfl rfl rfl, po := passes_of rfl, st := rfl, fr := rfl }
      · rw [show (Pr.cx fi).fns = Pr.F.map FI.gn from rfl, List.getElem?_map] at hf
        cases e : Pr.F[f]? with
        | none => rw [e] at hf; cases hf
        | some gi =>
          rw [e] at hf
          cases hf
          obtain ⟨gok, gmg, gd, G⟩ := tp.fn f gi e
          exact ⟨gd, gi.ps, gi.ps.length, gmg, G.kp, ih f gi gd e G, rfl, G.bindsN gok.bd, fun ds S hl => run_len e S hl⟩
      · obtain ⟨t1, t2, t3, ⟨t4, t5⟩, t6⟩ := tp.ex i x hi
        exact ⟨t1, t2, t3, raises_own t4 t5, t6⟩
    refine ⟨_, sndSs wf fi.body fok.chk g, Z, α, _, S, hh, RepE.start (N := fi.N) rl, ?_⟩
    have e : run Pr.F wf (n + 1) i ds S = callR (exs (run Pr.F wf n) wf fi.body (ds.map some ++ List.replicate (fi.N.length - ds.length) none) S) := by
      show (match Pr.F[i]? with
        | none => R.stuck
        | some fi => if ds.length = fi.ps.length then callR (exs (run Pr.F wf n) wf fi.body (ds.map some ++ List.replicate (fi.N.length - ds.length) none) S) else R.stuck) = _
      rw [hi]
      exact if_pos (hld.trans hlv)
    rw [e] at q
    cases hx : exs (run Pr.F wf n) wf fi.body (ds.map some ++ List.replicate (fi.N.length - ds.length) none) S with
    | stuck => rw [hx] at q; exact q.elim
    | exc c ρ S2 => rw [hx] at q; exact fun H' α' σ' e hr rr => q H' α' e hr
    | ok f S2 =>
      rw [hx] at q
      cases f with
      | nx ρ => exact fun H' α' σ' e hr rr => q H' α' e hr .non (by unfold Rep; rfl)
      | rt d => exact fun H' α' v e hr rr => q H' α' e hr v rr
      | bk ρ => exact q.elim
      | ct ρ => exact q.elim
end
/-- the law holds if the interpreter says so -/
theorem law_of {l : PySem.W.OpenLaw} {q : Program} {loose : List Str} {XP : (Str → Option Value) → Heap → Prop} {d : DefRec} {Pr : Prg} {n li : Nat} {lf : FI} {x : Str} {dep : Nat}
    (hn : l.most = some 63) (hdf : d.params.defaults = []) (hr : Room (2 * n) callerA) (ok : ∀ fi ∈ Pr.F, fi.Ok Pr) (hC : Pr.okC = true) (hl : Pr.F[li]? = some lf) (hx : lf.ps = [x]) (hnm : d.name = lf.nm) (hgn : lf.gn = some lf.nm)
    (hrun : ∀ ns : List Int, ns.length ≤ 63 → ∃ wf S, run Pr.F wf n li [.wl (ns.map .int)] [] = .ok (.bl true) S) :
    PySem.W.WalkO q loose XP (hookN dep Pr).says l.row.toRowW d [] (fun f vs => PySem.call f vs) := by
  refine Att.attach_call hn hdf fun w s₀ s₁ mg mb fa o pm cd doc a vs ns G Y ho hd hcd hmg hobj hints hlen hg => ?_
  obtain ⟨K, KX, c⟩ := Y
  have tp := tops_of (mg := mg) KX G.T.g ok hC c
  obtain ⟨lok, lmg, fd, hfd⟩ := tp.fn li lf hl
  have efa : fa = (tw0 K Pr).fa li := by
    rw [hnm, lmg _ hgn] at hmg
    cases hmg
    rfl
  subst efa
  refine L2.law_call (sp := fun us H Q E => ∃ wf, spI (tw0 K Pr) lf.ps.length (run Pr.F wf n li) us H Q E) (CX := L2.CX l.prog w) (x := x) (fd := fd) KX G.T.g G.T.b G.T.builtins G.T.nolimit hg hobj hints (Nat.le_trans hlen (by decide)) hr (fun base hb hns => ?_) (fun s u => ?_) (fun H hO hS => ?_) (fun H e s' z => ?_)
  · have G1 := fun wf => fn_run (P := l.prog) (w := w) (base := base) wf tp n li lf fd hl hfd
    rw [hx] at G1
    exact ⟨fun us H Q E ⟨wf, h⟩ => (G1 wf).len us H Q E (by rw [hx] at h; exact h), fun A outer s H args us vs Q E hr e0 hb r ⟨wf, h⟩ => (G1 wf).run A outer s H args us vs Q E hr e0 hb r (by rw [hx] at h; exact h)⟩
  · have b := FunD.bindsA (ps := lf.ps) hfd lok.bd s [u] (by rw [hx]; rfl)
    rw [hx] at b
    exact b
  · obtain ⟨wf, S, e⟩ := hrun ns hlen
    refine ⟨wf, by rw [hx]; rfl, [], [], [], [.wl (ns.map .int)], ?_, ?_, ?_⟩
    · exact ⟨rfl, List.nodup_nil, fun i c e => by simp at e, fun a ha => absurd (show (a, (none : Option HO)) ∈ ([] : PZ) from ha) List.not_mem_nil, fun a u ha => absurd (show (a, some u) ∈ ([] : PZ) from ha) List.not_mem_nil, fun i c e => by simp at e⟩
    · refine ⟨_, _, rfl, ?_, rfl⟩
      exact ⟨a, _, rfl, hS.elim (fun h => .inl ⟨h, List.not_mem_nil, List.not_mem_nil⟩) .inr, RepL.of_ints ns⟩
    · rw [e]
      exact fun H' α' _ _ v hv => by
        cases hv
        rfl
  · obtain ⟨_, _, _, _, _, _, _, _, _, _, _, _, z⟩ := z
    exact z
end NT
/-! reading runs of the interpreter -/
namespace NT
open PySem

/-- it goes well, to Q -/
def R.To {A : Type} (r : R A) (Q : A → Sto → Prop) : Prop := ∃ a S, r = .ok a S ∧ Q a S
def RS.To (r : RS) (Q : Fl → Sto → Prop) : Prop := ∃ f S, r = .ok f S ∧ Q f S
section
variable {A B : Type} {S : Sto} {ρ : Env}
theorem R.To.ok {a : A} {Q : A → Sto → Prop} (h : Q a S) : (R.ok a S).To Q := ⟨a, S, rfl, h⟩
theorem RS.To.ok {f : Fl} {Q : Fl → Sto → Prop} (h : Q f S) : (RS.ok f S).To Q := ⟨f, S, rfl, h⟩
theorem R.To.bind {r : R A} {k : A → Sto → R B} {Q : B → Sto → Prop} {Q0 : A → Sto → Prop} (h : r.To Q0) (h2 : ∀ a S, Q0 a S → (k a S).To Q) : (r.bind k).To Q := by
  obtain ⟨a, S, rfl, h⟩ := h
  exact h2 a S h
theorem R.To.thn {r : R A} {k : A → Sto → RS} {Q : Fl → Sto → Prop} {Q0 : A → Sto → Prop} (h : r.To Q0) (h2 : ∀ a S, Q0 a S → (k a S).To Q) : (r.thn ρ k).To Q := by
  obtain ⟨a, S, rfl, h⟩ := h
  exact h2 a S h
theorem RS.To.seq {r : RS} {k : Env → Sto → RS} {Q : Fl → Sto → Prop} {Q0 : Fl → Sto → Prop} (h : r.To Q0) (h2 : ∀ ρ S, Q0 (.nx ρ) S → (k ρ S).To Q) (h3 : ∀ f S, Q0 f S → (∀ ρ, f ≠ .nx ρ) → Q f S) : (r.seq k).To Q := by
  obtain ⟨f, S, rfl, h⟩ := h
  cases f with
  | nx ρ => exact h2 ρ S h
  | rt d => exact ⟨_, _, rfl, h3 _ _ h (fun _ e => by cases e)⟩
  | bk ρ => exact ⟨_, _, rfl, h3 _ _ h (fun _ e => by cases e)⟩
  | ct ρ => exact ⟨_, _, rfl, h3 _ _ h (fun _ e => by cases e)⟩
theorem R.To.mono {r : R A} {Q Q' : A → Sto → Prop} (h : r.To Q) (k : ∀ a S, Q a S → Q' a S) : r.To Q' := by
  obtain ⟨a, S, e, h⟩ := h
  exact ⟨a, S, e, k a S h⟩
theorem RS.To.mono {r : RS} {Q Q' : Fl → Sto → Prop} (h : r.To Q) (k : ∀ a S, Q a S → Q' a S) : r.To Q' := by
  obtain ⟨a, S, e, h⟩ := h
  exact ⟨a, S, e, k a S h⟩
theorem R.bind_ok {a : A} {k : A → Sto → R B} : (R.ok a S).bind k = k a S := rfl
theorem R.thn_ok {a : A} {k : A → Sto → RS} : (R.ok a S).thn ρ k = k a S := rfl
theorem RS.seq_nx {k : Env → Sto → RS} : (RS.ok (.nx ρ) S).seq k = k ρ S := rfl
theorem RS.seq_rt {k : Env → Sto → RS} {d : D} : (RS.ok (.rt d) S).seq k = .ok (.rt d) S := rfl
theorem RS.seq_bk {k : Env → Sto → RS} : (RS.ok (.bk ρ) S).seq k = .ok (.bk ρ) S := rfl
theorem RS.seq_ct {k : Env → Sto → RS} : (RS.ok (.ct ρ) S).seq k = .ok (.ct ρ) S := rfl
theorem liftO_some {d : D} : liftO (some (d, S)) = .ok d S := rfl
end
theorem run_at {F : List FI} {wf n i : Nat} {fi : FI} (h : F[i]? = some fi) {ds : List D} (S : Sto) (hl : ds.length = fi.ps.length) :
    run F wf (n + 1) i ds S = callR (exs (run F wf n) wf fi.body (ds.map some ++ List.replicate (fi.N.length - ds.length) none) S) := by
  show (match F[i]? with
    | none => R.stuck
    | some fi => if ds.length = fi.ps.length then callR (exs (run F wf n) wf fi.body (ds.map some ++ List.replicate (fi.N.length - ds.length) none) S) else R.stuck) = _
  rw [h]
  exact if_pos hl
theorem callR_To {r : RS} {Q : D → Sto → Prop} (h : r.To fun f S => match f with | .nx _ => Q .non S | .rt d => Q d S | _ => False) : (callR r).To Q := by
  obtain ⟨f, S, rfl, h⟩ := h
  cases f with
  | nx ρ => exact ⟨_, _, rfl, h⟩
  | rt d => exact ⟨_, _, rfl, h⟩
  | bk ρ => exact h.elim
  | ct ρ => exact h.elim

/-! ### loops -/
theorem gok_nil {S : Sto} : gok [] S := fun p hp => by cases hp
theorem forD_nil_ok {gs : Gs} {body : D → Env → Sto → RS} {ρ : Env} {S : Sto} (h : gok gs S) : forD gs body [] ρ S = .ok (.nx ρ) S := by
  rw [forD_nil]; exact if_pos h
/-- a for: an invariant over what is left -/
theorem forD_To {gs : Gs} {body : D → Env → Sto → RS} {Q : Fl → Sto → Prop} (I : List D → Env → Sto → Prop) (hg : ∀ ds ρ S, I ds ρ S → gok gs S) (he : ∀ ρ S, I [] ρ S → Q (.nx ρ) S)
    (hs : ∀ d ds ρ S, I (d :: ds) ρ S → (body d ρ S).To fun f S' => match f with | .nx ρ' => I ds ρ' S' | .ct ρ' => I ds ρ' S' | .bk ρ' => Q (.nx ρ') S' | .rt v => Q (.rt v) S') :
    ∀ (ds : List D) (ρ : Env) (S : Sto), I ds ρ S → (forD gs body ds ρ S).To Q
  | [], ρ, S, h => by
    rw [forD_nil_ok (hg _ _ _ h)]
    exact .ok (he _ _ h)
  | d :: ds, ρ, S, h => by
    rw [forD_cons, if_pos (hg _ _ _ h)]
    obtain ⟨f, S', e, q⟩ := hs d ds ρ S h
    rw [e]
    cases f with
    | nx ρ' => exact forD_To I hg he hs ds ρ' S' q
    | ct ρ' => exact forD_To I hg he hs ds ρ' S' q
    | bk ρ' => exact .ok q
    | rt v => exact .ok q
/-- a comprehension that leaves the store alone -/
theorem lcD_pure {gs : Gs} {turn : D → Sto → R (Option D)} {S : Sto} (o : D → Option D) (hg : gok gs S) : ∀ (ds acc : List D), (∀ d ∈ ds, turn d S = .ok (o d) S) → lcD gs turn ds acc S = .ok (acc ++ ds.filterMap o) S
  | [], acc, _ => by
    rw [lcD_nil, if_pos hg]
    simp
  | d :: ds, acc, h => by
    rw [lcD_cons, if_pos hg, h d (List.mem_cons_self ..)]
    show lcD gs turn ds _ S = _
    rw [lcD_pure o hg ds _ fun d' hd => h d' (List.mem_cons_of_mem _ hd)]
    cases e : o d with
    | none => simp [List.filterMap_cons, e]
    | some y => simp [List.filterMap_cons, e]
/-- the same, over a list of things told as values -/
theorem lcD_map {A : Type} {gs : Gs} {turn : D → Sto → R (Option D)} {S : Sto} (g : A → D) (o : A → Option D) (hg : gok gs S) (xs : List A) (h : ∀ x ∈ xs, turn (g x) S = .ok (o x) S) : lcD gs turn (xs.map g) [] S = .ok (xs.filterMap o) S := by
  have key : ∀ (xs : List A) (acc : List D), (∀ x ∈ xs, turn (g x) S = .ok (o x) S) → lcD gs turn (xs.map g) acc S = .ok (acc ++ xs.filterMap o) S := by
    intro xs
    induction xs with
    | nil => intro acc _; rw [List.map_nil, lcD_nil, if_pos hg]; simp
    | cons x xs ih =>
      intro acc h
      rw [List.map_cons, lcD_cons, if_pos hg, h x (List.mem_cons_self ..)]
      show lcD gs turn (xs.map g) _ S = _
      rw [ih _ fun d' hd => h d' (List.mem_cons_of_mem _ hd)]
      cases e : o x with
      | none => simp [List.filterMap_cons, e]
      | some y => simp [List.filterMap_cons, e]
  simpa using key xs [] h
/-- a comprehension with an invariant -/
theorem lcD_To {gs : Gs} {turn : D → Sto → R (Option D)} {Q : List D → Sto → Prop} (I : List D → List D → Sto → Prop) (hg : ∀ ds acc S, I ds acc S → gok gs S) (he : ∀ acc S, I [] acc S → Q acc S)
    (hs : ∀ d ds acc S, I (d :: ds) acc S → (turn d S).To fun o S' => I ds (match o with | some y => acc ++ [y] | none => acc) S') :
    ∀ (ds acc : List D) (S : Sto), I ds acc S → (lcD gs turn ds acc S).To Q
  | [], acc, S, h => by
    rw [lcD_nil, if_pos (hg _ _ _ h)]
    exact .ok (he _ _ h)
  | d :: ds, acc, S, h => by
    rw [lcD_cons, if_pos (hg _ _ _ h)]
    obtain ⟨o, S', e, q⟩ := hs d ds acc S h
    rw [e]
    exact lcD_To I hg he hs ds _ S' q
end NT
/-! the operations, read -/
namespace NT
open PySem

/-! ### plain data -/
mutual
def pl : D → Bool
  | .non => true
  | .int _ => true
  | .str x => PyData.strOk x
  | .tup ds => plL ds
  | .lst ds => plL ds
  | _ => false
def plL : List D → Bool
  | [] => true
  | d :: ds => pl d && plL ds
end
mutual
def dep : D → Nat
  | .tup ds => depL ds + 1
  | .lst ds => depL ds + 1
  | .non => 0
  | .bl _ => 0
  | .int _ => 0
  | .str _ => 0
  | .wt _ => 0
  | .wl _ => 0
  | .pt _ => 0
  | .ref _ => 0
  | .fn _ => 0
  | .ty _ => 0
def depL : List D → Nat
  | [] => 0
  | d :: ds => max (dep d) (depL ds)
end
mutual
theorem py_pl : ∀ d : D, pl d = true → ∃ p, d.py0 = some p ∧ p.canLay0 = true ∧ p.depth = dep d
  | .non, _ => ⟨.none, rfl, rfl, rfl⟩
  | .int i, _ => ⟨.int i, rfl, rfl, rfl⟩
  | .str x, h => ⟨.str x, rfl, by simpa [pl, PyData.canLay0] using h, rfl⟩
  | .tup ds, h => by
    obtain ⟨ps, e, h1, h2⟩ := py_plL ds (by simpa [pl] using h)
    exact ⟨.tuple ps, by simp [D.py0, e], by simpa [PyData.canLay0] using h1, by simp [PyData.depth, dep, h2]⟩
  | .lst ds, h => by
    obtain ⟨ps, e, h1, h2⟩ := py_plL ds (by simpa [pl] using h)
    exact ⟨.list ps, by simp [D.py0, e], by simpa [PyData.canLay0] using h1, by simp [PyData.depth, dep, h2]⟩
  | .bl _, h => by cases h
  | .wt _, h => by cases h
  | .wl _, h => by cases h
  | .pt _, h => by cases h
  | .ref _, h => by cases h
  | .fn _, h => by cases h
  | .ty _, h => by cases h
theorem py_plL : ∀ ds : List D, plL ds = true → ∃ ps, D.py0L ds = some ps ∧ PyData.canLayAll0 ps = true ∧ PyData.depthAll ps = depL ds
  | [], _ => ⟨[], rfl, rfl, rfl⟩
  | d :: ds, h => by
    simp only [plL, Bool.and_eq_true] at h
    obtain ⟨p, e1, h1, h2⟩ := py_pl d h.1
    obtain ⟨ps, e2, h3, h4⟩ := py_plL ds h.2
    exact ⟨p :: ps, by simp [D.py0L, e1, e2], by simp [PyData.canLayAll0, h1, h3], by simp [PyData.depthAll, depL, h2, h4]⟩
end
mutual
theorem eqv_pl : ∀ (a b : D) (p q : PyData), pl a = true → pl b = true → a.py0 = some p → b.py0 = some q → (PyData.eqv p q = true ↔ a = b)
  | .non, b, p, q, ha, hb, e1, e2 => by
    cases e1
    cases b <;> first | (cases hb; done) | (simp only [D.py0, Option.some.injEq, Option.map_eq_some_iff] at e2; first | (subst e2; simp [PyData.eqv]; done) | (obtain ⟨_, _, rfl⟩ := e2; simp [PyData.eqv]; done))
  | .int i, b, p, q, ha, hb, e1, e2 => by
    cases e1
    cases b <;> first | (cases hb; done) | (simp only [D.py0, Option.some.injEq, Option.map_eq_some_iff] at e2; first | (subst e2; simp [PyData.eqv]; done) | (obtain ⟨_, _, rfl⟩ := e2; simp [PyData.eqv]; done))
  | .str i, b, p, q, ha, hb, e1, e2 => by
    cases e1
    cases b <;> first | (cases hb; done) | (simp only [D.py0, Option.some.injEq, Option.map_eq_some_iff] at e2; first | (subst e2; simp [PyData.eqv]; done) | (obtain ⟨_, _, rfl⟩ := e2; simp [PyData.eqv]; done))
  | .tup as, b, p, q, ha, hb, e1, e2 => by
    simp only [D.py0, Option.map_eq_some_iff] at e1
    obtain ⟨ps, e1, rfl⟩ := e1
    cases b <;> first
      | (cases hb; done)
      | (rename_i bs
         simp only [D.py0, Option.map_eq_some_iff] at e2
         obtain ⟨qs, e2, rfl⟩ := e2
         have := eqv_plL as bs ps qs (by simpa [pl] using ha) (by simpa [pl] using hb) e1 e2
         simp [PyData.eqv, this]; done)
      | (simp only [D.py0, Option.some.injEq, Option.map_eq_some_iff] at e2; first | (subst e2; simp [PyData.eqv]; done) | (obtain ⟨_, _, rfl⟩ := e2; simp [PyData.eqv]; done))
  | .lst as, b, p, q, ha, hb, e1, e2 => by
    simp only [D.py0, Option.map_eq_some_iff] at e1
    obtain ⟨ps, e1, rfl⟩ := e1
    cases b <;> first
      | (cases hb; done)
      | (rename_i bs
         simp only [D.py0, Option.map_eq_some_iff] at e2
         obtain ⟨qs, e2, rfl⟩ := e2
         have := eqv_plL as bs ps qs (by simpa [pl] using ha) (by simpa [pl] using hb) e1 e2
         simp [PyData.eqv, this]; done)
      | (simp only [D.py0, Option.some.injEq, Option.map_eq_some_iff] at e2; first | (subst e2; simp [PyData.eqv]; done) | (obtain ⟨_, _, rfl⟩ := e2; simp [PyData.eqv]; done))
  | .bl _, _, _, _, h, _, _, _ => by cases h
  | .wt _, _, _, _, h, _, _, _ => by cases h
  | .wl _, _, _, _, h, _, _, _ => by cases h
  | .pt _, _, _, _, h, _, _, _ => by cases h
  | .ref _, _, _, _, h, _, _, _ => by cases h
  | .fn _, _, _, _, h, _, _, _ => by cases h
  | .ty _, _, _, _, h, _, _, _ => by cases h
theorem eqv_plL : ∀ (as bs : List D) (ps qs : List PyData), plL as = true → plL bs = true → D.py0L as = some ps → D.py0L bs = some qs → (PyData.eqvAll ps qs = true ↔ as = bs)
  | [], [], ps, qs, _, _, e1, e2 => by cases e1; cases e2; simp [PyData.eqvAll]
  | [], b :: bs, ps, qs, _, hb, e1, e2 => by
    cases e1
    simp only [plL, Bool.and_eq_true] at hb
    obtain ⟨p, q1, _, _⟩ := py_pl b hb.1
    obtain ⟨ps, q2, _, _⟩ := py_plL bs hb.2
    simp only [D.py0L, q1, q2, Option.some.injEq] at e2
    subst e2
    simp [PyData.eqvAll]
  | a :: as, [], ps, qs, ha, _, e1, e2 => by
    cases e2
    simp only [plL, Bool.and_eq_true] at ha
    obtain ⟨p, q1, _, _⟩ := py_pl a ha.1
    obtain ⟨ps, q2, _, _⟩ := py_plL as ha.2
    simp only [D.py0L, q1, q2, Option.some.injEq] at e1
    subst e1
    simp [PyData.eqvAll]
  | a :: as, b :: bs, ps, qs, ha, hb, e1, e2 => by
    simp only [plL, Bool.and_eq_true] at ha hb
    obtain ⟨p, q1, _, _⟩ := py_pl a ha.1
    obtain ⟨ps, q2, _, _⟩ := py_plL as ha.2
    simp only [D.py0L, q1, q2, Option.some.injEq] at e1
    subst e1
    obtain ⟨p', r1, _, _⟩ := py_pl b hb.1
    obtain ⟨ps', r2, _, _⟩ := py_plL bs hb.2
    simp only [D.py0L, r1, r2, Option.some.injEq] at e2
    subst e2
    have h1 := eqv_pl a b p p' ha.1 hb.1 q1 r1
    have h2 := eqv_plL as bs ps ps' ha.2 hb.2 q2 r2
    simp [PyData.eqvAll, h1, h2]
end
theorem py_of_pl {S : Sto} {d : D} (h : pl d = true) : d.py S = d.py0 := by
  cases d <;> first | rfl | cases h
section
variable {S : Sto} {a b : D}
open Classical in
theorem eqD_pl (ha : pl a = true) (hb : pl b = true) (da : dep a ≤ 64) (db : dep b ≤ 64) : eqD S [a, b] = some (.bl (decide (a = b)), S) := by
  obtain ⟨p, e1, c1, d1⟩ := py_pl a ha
  obtain ⟨q', e2, c2, d2⟩ := py_pl b hb
  have h := eqv_pl a b p q' ha hb e1 e2
  unfold eqD
  simp only [py_of_pl ha, py_of_pl hb, e1, e2]
  rw [if_pos (by simp [SeqAt.shaped, c1, c2, d1, d2, da, db])]
  by_cases q : a = b
  · rw [h.mpr q, decide_eq_true q]
  · rw [decide_eq_false q]
    have : PyData.eqv p q' = false := by
      rw [Bool.eq_false_iff]
      exact fun z => q (h.mp z)
    rw [this]
open Classical in
theorem neD_pl (ha : pl a = true) (hb : pl b = true) (da : dep a ≤ 64) (db : dep b ≤ 64) : neD S [a, b] = some (.bl (!decide (a = b)), S) := by
  obtain ⟨p, e1, c1, d1⟩ := py_pl a ha
  obtain ⟨q', e2, c2, d2⟩ := py_pl b hb
  have h := eqv_pl a b p q' ha hb e1 e2
  unfold neD
  simp only [py_of_pl ha, py_of_pl hb, e1, e2]
  rw [if_pos (by simp [SeqAt.shaped, c1, c2, d1, d2, da, db])]
  by_cases q : a = b
  · rw [h.mpr q, decide_eq_true q]
  · rw [decide_eq_false q]
    have : PyData.eqv p q' = false := by
      rw [Bool.eq_false_iff]
      exact fun z => q (h.mp z)
    rw [this]
end
section
variable {S : Sto} {i j : Int}
theorem eqD_int : eqD S [.int i, .int j] = some (.bl (decide (i = j)), S) := by
  simp [eqD, D.py, D.py0, SeqAt.shaped, PyData.canLay0, PyData.depth, PyData.eqv]
  rfl
theorem neD_int : neD S [.int i, .int j] = some (.bl (!decide (i = j)), S) := by
  simp [neD, D.py, D.py0, SeqAt.shaped, PyData.canLay0, PyData.depth, PyData.eqv]
  rfl
theorem ordOk_int : ordOk (.int i) (.int j) = true := by simp [ordOk, PySem.W.alike, PyData.depth]
theorem ltD_int : Cop.f .lt S [.int i, .int j] = some (.bl (decide (i < j)), S) := by simp [Cop.f, ordD, D.py, D.py0, ordOk_int, PySem.W.dataLt_int]
theorem gtD_int : Cop.f .gt S [.int i, .int j] = some (.bl (decide (j < i)), S) := by simp [Cop.f, ordD, D.py, D.py0, ordOk_int, PySem.W.dataLt_int]
theorem leD_int : Cop.f .le S [.int i, .int j] = some (.bl (decide (i ≤ j)), S) := by
  have e : (!decide (j < i)) = decide (i ≤ j) := by by_cases h : i ≤ j <;> simp [h] <;> omega
  simp only [Cop.f, ordD, D.py, D.py0, ordOk_int, PySem.W.dataLt_int, if_true, e]
theorem geD_int : Cop.f .ge S [.int i, .int j] = some (.bl (decide (j ≤ i)), S) := by
  have e : (!decide (i < j)) = decide (j ≤ i) := by by_cases h : j ≤ i <;> simp [h] <;> omega
  simp only [Cop.f, ordD, D.py, D.py0, ordOk_int, PySem.W.dataLt_int, if_true, e]
end
theorem best4_max (a b c d : Int) : best4 (fun x m => decide (x > m)) a b c d = max (max (max a b) c) d := by
  simp only [best4, List.foldl, decide_eq_true_eq]
  omega

/-! ### sorting -/
theorem sortL_map {A : Type} (g : A → D) (le : A → A → Bool) (xs : List A) (h : ∀ a ∈ xs, ∀ b ∈ xs, le a b = PySem.W.dataLe false encD (g a) (g b)) : sortL (xs.map g) = (xs.mergeSort le).map g := by
  unfold sortL
  exact (PySem.W.sort_maps g h).symm
theorem sortL_int (ns : List Int) : sortL (ns.map D.int) = (ns.mergeSort fun a b => decide (a ≤ b)).map D.int := by
  refine sortL_map D.int _ ns fun a _ b _ => ?_
  have := congrFun (congrFun (PySem.W.dataLe_int (fun x : Int => x)) a) b
  exact this.symm
theorem sortL_pr (ns : List (Int × Int)) : sortL (ns.map pr) = (ns.mergeSort prLe).map pr := by
  refine sortL_map pr _ ns fun a _ b _ => ?_
  have := congrFun (congrFun (PySem.W.dataLe_ii (fun x : Int × Int => x.1) (fun x => x.2)) a) b
  exact this.symm
theorem py0L_int : ∀ ns : List Int, D.py0L (ns.map D.int) = some (ns.map PyData.int)
  | [] => rfl
  | n :: ns => by simp [D.py0L, D.py0, py0L_int ns]
theorem py0L_pr : ∀ ns : List (Int × Int), D.py0L (ns.map pr) = some (ns.map fun p => PyData.tuple [.int p.1, .int p.2])
  | [] => rfl
  | n :: ns => by simp [D.py0L, D.py0, py0L_pr ns, pr]
theorem sortOk_int (ns : List Int) : sortOk (ns.map PyData.int) = true := by
  simp [sortOk, PySem.W.alike, PyData.depth]
theorem sortOk_pr (ns : List (Int × Int)) : sortOk (ns.map fun p => PyData.tuple [.int p.1, .int p.2]) = true := by
  simp [sortOk, PySem.W.alike, PySem.W.alikeAll, PyData.depth, PyData.depthAll]
section
variable {S : Sto}
theorem sortedD_int {d : D} {ns : List Int} (h : itemsOf S d = some (ns.map D.int)) (hl : ns.length ≤ sizeLine) : sortedD S [d] = some (.lst ((ns.mergeSort fun a b => decide (a ≤ b)).map D.int), S) := by
  simp only [sortedD, h, py0L_int]
  rw [if_pos ⟨sortOk_int ns, by simpa using hl⟩, sortL_int]
theorem sortedD_pr {d : D} {ns : List (Int × Int)} (h : itemsOf S d = some (ns.map pr)) (hl : ns.length ≤ sizeLine) : sortedD S [d] = some (.lst ((ns.mergeSort prLe).map pr), S) := by
  simp only [sortedD, h, py0L_pr]
  rw [if_pos ⟨sortOk_pr ns, by simpa using hl⟩, sortL_pr]
/-! ### in -/
theorem canLay_ints : ∀ ns : List Int, PyData.canLayAll0 (ns.map PyData.int) = true
  | [] => rfl
  | n :: ns => by simp [PyData.canLayAll0, PyData.canLay0, canLay_ints ns]
theorem depth_ints : ∀ ns : List Int, PyData.depthAll (ns.map PyData.int) = 0
  | [] => rfl
  | n :: ns => by simp [PyData.depthAll, PyData.depth, depth_ints ns]
theorem inB_int {c : D} {b : Bool} {x : Int} {ns : List Int} (h0 : dGet S c (.int x) = none) (h : asSeq S c = some (b, ns.map D.int)) : inB S (.int x) c = some (decide (x ∈ ns)) := by
  have e : (ns.map PyData.int).any (fun z => PyData.eqv z (.int x)) = decide (x ∈ ns) := by
    rw [List.any_map]
    rw [Bool.eq_iff_iff]
    simp [PyData.eqv]
  simp only [inB, h0, h, D.py, D.py0, py0L_int]
  rw [if_pos (by simp [SeqAt.shaped, PyData.canLay0, PyData.depth, canLay_ints, depth_ints]), e]
end
end NT
/-! the interpreter, case by case (printed by gen_s.py) -/
namespace NT
open PySem L2
section
variable {cf : Nat → List D → Sto → R D} {wf : Nat}
def orR (x : D) (S1 : Sto) (k : R D) : R D := match x with
  | .bl true => .ok (.bl true) S1
  | .bl false => k
  | _ => .stuck
def andR (x : D) (S1 : Sto) (k : R D) : R D := match x with
  | .bl true => k
  | .bl false => .ok (.bl false) S1
  | _ => .stuck
@[simp] theorem e1_var {i : Nat} : ev2 cf (.var i) = plainE fun ρ S => match ρ[i]? with
    | some (some d) => .ok d S
    | _ => .stuck := by first | (rw [ev2]; done) | (rw [ev2]; rfl)
@[simp] theorem e1_lit {d : D} : ev2 cf (.lit d) = plainE fun _ S => .ok d S := by first | (rw [ev2]; done) | (rw [ev2]; rfl)
@[simp] theorem e1_ty {n : String} : ev2 cf (.ty n) = plainE fun _ S => .ok (.ty n) S := by first | (rw [ev2]; done) | (rw [ev2]; rfl)
@[simp] theorem e1_fn {i : Nat} : ev2 cf (.fn i) = plainE fun _ S => .ok (.fn i) S := by first | (rw [ev2]; done) | (rw [ev2]; rfl)
@[simp] theorem e1_bin {o : Bop} {a : E} {b : E} : ev2 cf (.bin o a b) = plainE fun ρ S => ((ev2 cf a).1 ρ S).bind fun x S1 => ((ev2 cf b).1 ρ S1).bind fun y S2 => liftO (o.f S2 [x, y]) := by first | (rw [ev2]; done) | (rw [ev2]; rfl)
@[simp] theorem e1_neg {a : E} : ev2 cf (.neg a) = plainE fun ρ S => ((ev2 cf a).1 ρ S).bind fun x S1 => match x with
    | .int i => .ok (.int (-i)) S1
    | _ => .stuck := by first | (rw [ev2]; done) | (rw [ev2]; rfl)
@[simp] theorem e1_cmp {o : Cop} {a : E} {b : E} : ev2 cf (.cmp o a b) = boolE fun ρ S => ((ev2 cf a).1 ρ S).bind fun x S1 => ((ev2 cf b).1 ρ S1).bind fun y S2 => liftO (o.f S2 [x, y]) := by first | (rw [ev2]; done) | (rw [ev2]; rfl)
@[simp] theorem e1_cmp2 {o : Cop} {p : Cop} {a : E} {b : E} {c : E} : ev2 cf (.cmp2 o p a b c) = boolE fun ρ S => ((ev2 cf a).1 ρ S).bind fun x S1 => ((ev2 cf b).1 ρ S1).bind fun y S2 => (liftO (o.f S2 [x, y])).bind fun z S3 => andR z S3 (((ev2 cf c).1 ρ S3).bind fun w S4 => liftO (p.f S4 [y, w])) := by rw [ev2]; rfl
@[simp] theorem e1_and {a : E} {b : E} : ev2 cf (.and a b) = (fun ρ S => ((ev2 cf a).1 ρ S).bind fun x S1 => andR x S1 ((ev2 cf b).1 ρ S1), fun ρ S => ((ev2 cf a).2 ρ S).bind fun t S1 => if t = true then (ev2 cf b).2 ρ S1 else .ok false S1) := by rw [ev2]; rfl
@[simp] theorem e1_or {a : E} {b : E} : ev2 cf (.or a b) = (fun ρ S => ((ev2 cf a).1 ρ S).bind fun x S1 => orR x S1 ((ev2 cf b).1 ρ S1), fun ρ S => ((ev2 cf a).2 ρ S).bind fun t S1 => if t = true then .ok true S1 else (ev2 cf b).2 ρ S1) := by rw [ev2]; rfl
@[simp] theorem e1_one {a : E} : ev2 cf (.one a) = ((ev2 cf a).1, (ev2 cf a).2) := by first | (rw [ev2]; done) | (rw [ev2]; rfl)
@[simp] theorem e1_not {a : E} : ev2 cf (.not a) = (fun ρ S => ((ev2 cf a).1 ρ S).bind fun x S1 => match truB S1 x with
      | some b => .ok (.bl (!b)) S1
      | none => .stuck,
    fun ρ S => ((ev2 cf a).2 ρ S).bind fun t S1 => .ok (!t) S1) := by first | (rw [ev2]; done) | (rw [ev2]; rfl)
@[simp] theorem e1_ite {c : E} {a : E} {b : E} : ev2 cf (.ite c a b) = (fun ρ S => ((ev2 cf c).2 ρ S).bind fun t S1 => if t = true then (ev2 cf a).1 ρ S1 else (ev2 cf b).1 ρ S1, fun _ _ => .stuck) := by first | (rw [ev2]; done) | (rw [ev2]; rfl)
@[simp] theorem e1_call {f : Nat} {es : Es} : ev2 cf (.call f es) = plainE fun ρ S => (evs cf es ρ S).bind fun ds S1 => cf f ds S1 := by first | (rw [ev2]; done) | (rw [ev2]; rfl)
@[simp] theorem e1_bi {b : Bi} {es : Es} : ev2 cf (.bi b es) = plainE fun ρ S => (evs cf es ρ S).bind fun ds S1 => liftO (b.f S1 ds) := by first | (rw [ev2]; done) | (rw [ev2]; rfl)
@[simp] theorem e1_bt {b : Bt} {es : Es} : ev2 cf (.bt b es) = plainE fun ρ S => (evs cf es ρ S).bind fun ds S1 => liftO (b.f S1 ds) := by first | (rw [ev2]; done) | (rw [ev2]; rfl)
@[simp] theorem e1_mth {m : Mth} {o : E} {es : Es} : ev2 cf (.mth m o es) = plainE fun ρ S => ((ev2 cf o).1 ρ S).bind fun x S1 => if m.ok S1 x = true then (evs cf es ρ S1).bind fun ds S2 => liftO (m.f S2 (x :: ds)) else .stuck := by first | (rw [ev2]; done) | (rw [ev2]; rfl)
@[simp] theorem e1_idx {a : E} {b : E} : ev2 cf (.idx a b) = plainE fun ρ S => ((ev2 cf a).1 ρ S).bind fun x S1 => ((ev2 cf b).1 ρ S1).bind fun y S2 => liftO (idxD S2 [x, y]) := by first | (rw [ev2]; done) | (rw [ev2]; rfl)
@[simp] theorem e1_slc {a : E} {lo : E} {hi : E} : ev2 cf (.slc a lo hi) = plainE fun ρ S => ((ev2 cf a).1 ρ S).bind fun x S1 =>
      (if lo.isNo = true then .ok none S1 else ((ev2 cf lo).1 ρ S1).bind fun y S2 => match y with | .int i => .ok (some i) S2 | _ => .stuck : R (Option Int)).bind fun l S2 =>
      (if hi.isNo = true then .ok none S2 else ((ev2 cf hi).1 ρ S2).bind fun y S3 => match y with | .int i => .ok (some i) S3 | _ => .stuck : R (Option Int)).bind fun h S3 => match slcF S3 x l h with
    | some r => .ok r S3
    | none => .stuck := by first | (rw [ev2]; done) | (rw [ev2]; rfl)
@[simp] theorem e1_rev {a : E} : ev2 cf (.rev a) = plainE fun ρ S => ((ev2 cf a).1 ρ S).bind fun x S1 => match turnD S1 x with
    | some r => .ok r S1
    | none => .stuck := by first | (rw [ev2]; done) | (rw [ev2]; rfl)
@[simp] theorem e1_glo {x : Str} {k : Cst} : ev2 cf (.glo x k) = plainE fun _ S => .ok k.d S := by first | (rw [ev2]; done) | (rw [ev2]; rfl)
@[simp] theorem e1_callL {i : Nat} {fs : List Nat} {es : Es} : ev2 cf (.callL i fs es) = plainE fun ρ S => match ρ[i]? with
    | some (some (.fn f)) => if f ∈ fs then (evs cf es ρ S).bind fun ds S1 => cf f ds S1 else .stuck
    | _ => .stuck := by first | (rw [ev2]; done) | (rw [ev2]; rfl)
@[simp] theorem e1_tup {es : Es} : ev2 cf (.tup es) = plainE fun ρ S => (evs cf es ρ S).bind fun ds S1 => if ds.length ≤ sizeLine then .ok (.tup ds) S1 else .stuck := by first | (rw [ev2]; done) | (rw [ev2]; rfl)
@[simp] theorem e1_lst {es : Es} : ev2 cf (.lst es) = plainE fun ρ S => (evs cf es ρ S).bind fun ds S1 => if ds.length ≤ sizeLine then .ok (.lst ds) S1 else .stuck := by first | (rw [ev2]; done) | (rw [ev2]; rfl)
@[simp] theorem e1_lstR {es : Es} : ev2 cf (.lstR es) = plainE fun ρ S => (evs cf es ρ S).bind fun ds S1 => if ds.length ≤ sizeLine then .ok (.ref S1.length) (S1 ++ [.lst ds]) else .stuck := by first | (rw [ev2]; done) | (rw [ev2]; rfl)
@[simp] theorem e1_dK  : ev2 cf .dK = plainE fun _ S => .ok (.ref S.length) (S ++ [.dK []]) := by first | (rw [ev2]; done) | (rw [ev2]; rfl)
@[simp] theorem e1_dT  : ev2 cf .dT = plainE fun _ S => .ok (.ref S.length) (S ++ [.dT []]) := by first | (rw [ev2]; done) | (rw [ev2]; rfl)
@[simp] theorem e1_comp {p : Pat} {it : It} {c : E} {elt : E} {own : List Nat} : ev2 cf (.comp p it c elt own) = plainE fun ρ S => (evIt cf it ρ S).bind fun ig S1 => if ig.1.length ≤ sizeLine then
      (lcD ig.2 (fun d S2 => match p.bnd d (wipeD ρ own) with
        | none => .stuck
        | some ρ' => (if c.isNo = true then .ok true S2 else (ev2 cf c).2 ρ' S2 : R Bool).bind fun t S3 => if t = true then ((ev2 cf elt).1 ρ' S3).bind fun y S4 => .ok (some y) S4 else .ok none S3) ig.1 [] S1).bind fun ds S2 => .ok (.lst ds) S2
    else .stuck := by first | (rw [ev2]; done) | (rw [ev2]; rfl)
@[simp] theorem e1_sset {a : E} : ev2 cf (.sset a) = plainE fun ρ S => ((ev2 cf a).1 ρ S).bind fun x S1 => match ssetD S1 x with
    | some r => .ok r S1
    | none => .stuck := by first | (rw [ev2]; done) | (rw [ev2]; rfl)
@[simp] theorem e1_dKs {es : Es} : ev2 cf (.dKs es) = plainE fun ρ S => (evs cf es ρ (S ++ [.dK []])).bind fun ds S1 => match cellK S1 S.length, pairUp ds with
    | some [], some kvs => if kvs.length ≤ 15 then .ok (.ref S.length) (S1.set S.length (.dK (mergeD [] kvs))) else .stuck
    | _, _ => .stuck := by first | (rw [ev2]; done) | (rw [ev2]; rfl)
@[simp] theorem e1_lk {e : E} {b : E} : ev2 cf (.lk e b) = plainE fun ρ S => lkR ((ev2 cf e).1 ρ S) S ((ev2 cf b).1 ρ) := by first | (rw [ev2]; done) | (rw [ev2]; rfl)
@[simp] theorem e1_meth {c : Nat} {m : Str} {f : Nat} {o : E} {es : Es} : ev2 cf (.meth c m f o es) = plainE fun ρ S => ((ev2 cf o).1 ρ S).bind fun x S1 => match insOf S1 c x with
    | some (i, fs) => if (look fs m).isNone = true then (evs cf es ρ S1).bind fun ds S2 => cf f (.ref i :: ds) S2 else .stuck
    | none => .stuck := by first | (rw [ev2]; done) | (rw [ev2]; rfl)
@[simp] theorem e1_make {c : Nat} {f : Nat} {es : Es} : ev2 cf (.make c f es) = plainE fun ρ S => (evs cf es ρ S).bind fun ds S1 => madeR S1.length (cf f (.ref S1.length :: ds) (S1 ++ [.ins c []])) := by first | (rw [ev2]; done) | (rw [ev2]; rfl)
@[simp] theorem e1_fld {o : E} {c : Nat} {n : Str} : ev2 cf (.fld o c n) = plainE fun ρ S => ((ev2 cf o).1 ρ S).bind fun x S1 => match insOf S1 c x with
    | some (_, fs) => (match look fs n with
      | some d => .ok d S1
      | none => .stuck)
    | none => .stuck := by first | (rw [ev2]; done) | (rw [ev2]; rfl)
@[simp] theorem es_nil  : evs cf .nil = fun _ S => .ok [] S := by first | (rw [evs]; done) | (rw [evs]; rfl)
@[simp] theorem es_cons {e : E} {es : Es} : evs cf (.cons e es) = fun ρ S => ((ev2 cf e).1 ρ S).bind fun d S1 => (evs cf es ρ S1).bind fun ds S2 => .ok (d :: ds) S2 := by first | (rw [evs]; done) | (rw [evs]; rfl)
@[simp] theorem ei_seq {e : E} : evIt cf (.seq e) = fun ρ S => ((ev2 cf e).1 ρ S).bind fun x S1 => match asSeq S1 x with
    | some (_, es) => .ok (es, gOf x es) S1
    | none => .stuck := by first | (rw [evIt]; done) | (rw [evIt]; rfl)
@[simp] theorem ei_range1 {a : E} : evIt cf (.range1 a) = fun ρ S => ((ev2 cf a).1 ρ S).bind fun x S1 => match x with
    | .int j => if -(2 ^ 62) ≤ j ∧ j < 2 ^ 62 then .ok (rngD 0 j.toNat, []) S1 else .stuck
    | _ => .stuck := by first | (rw [evIt]; done) | (rw [evIt]; rfl)
@[simp] theorem ei_range2 {a : E} {b : E} : evIt cf (.range2 a b) = fun ρ S => ((ev2 cf a).1 ρ S).bind fun x S1 => ((ev2 cf b).1 ρ S1).bind fun y S2 => match x, y with
    | .int i, .int j => if -(2 ^ 62) ≤ i ∧ i < 2 ^ 62 ∧ -(2 ^ 62) ≤ j ∧ j < 2 ^ 62 then .ok (rngD i (j - i).toNat, []) S2 else .stuck
    | _, _ => .stuck := by first | (rw [evIt]; done) | (rw [evIt]; rfl)
@[simp] theorem ei_zip {a : E} {b : E} : evIt cf (.zip a b) = fun ρ S => ((ev2 cf a).1 ρ S).bind fun x S1 => ((ev2 cf b).1 ρ S1).bind fun y S2 => match asSeq S2 x, asSeq S2 y with
    | some (k, xs), some (l, ys) => if k = l then .ok ((xs.zip ys).map fun p => .tup [p.1, p.2], gOf x xs ++ gOf y ys) S2 else .stuck
    | _, _ => .stuck := by first | (rw [evIt]; done) | (rw [evIt]; rfl)
@[simp] theorem ei_keys {e : E} : evIt cf (.keys e) = fun ρ S => ((ev2 cf e).1 ρ S).bind fun x S1 => match keysF S1 x with
    | some es => .ok (es, []) S1
    | none => .stuck := by first | (rw [evIt]; done) | (rw [evIt]; rfl)
@[simp] theorem ei_vals {e : E} : evIt cf (.vals e) = fun ρ S => ((ev2 cf e).1 ρ S).bind fun x S1 => match valsF S1 x with
    | some es => .ok (es, []) S1
    | none => .stuck := by first | (rw [evIt]; done) | (rw [evIt]; rfl)
theorem x1_asg {p : Pat} {e : E} : ex cf wf (.asg p e) = fun ρ S => (ev cf e ρ S).thn ρ fun d S1 => match p.bnd d ρ with
    | some ρ' => .ok (.nx ρ') S1
    | none => .stuck := by first | (rw [ex]; done) | (rw [ex]; rfl)
theorem x1_setI {o : E} {k : E} {v : E} : ex cf wf (.setI o k v) = fun ρ S => (ev cf v ρ S).thn ρ fun x S1 => (ev cf o ρ S1).thn ρ fun y S2 => (ev cf k ρ S2).thn ρ fun z S3 => match setS S3 y z x with
    | some S4 => .ok (.nx ρ) S4
    | none => .stuck := by first | (rw [ex]; done) | (rw [ex]; rfl)
theorem x1_exp {e : E} : ex cf wf (.exp e) = fun ρ S => (ev cf e ρ S).thn ρ fun _ S1 => .ok (.nx ρ) S1 := by first | (rw [ex]; done) | (rw [ex]; rfl)
theorem x1_ret {e : E} : ex cf wf (.ret e) = fun ρ S => (ev cf e ρ S).thn ρ fun d S1 => .ok (.rt d) S1 := by first | (rw [ex]; done) | (rw [ex]; rfl)
theorem x1_retN  : ex cf wf .retN = fun _ S => .ok (.rt .non) S := by first | (rw [ex]; done) | (rw [ex]; rfl)
theorem x1_ite {c : E} {a : Sts} {b : Sts} : ex cf wf (.ite c a b) = fun ρ S => (evT cf c ρ S).thn ρ fun t S1 => if t = true then exs cf wf a ρ S1 else exs cf wf b ρ S1 := by first | (rw [ex]; done) | (rw [ex]; rfl)
theorem x1_for_ {p : Pat} {it : It} {b : Sts} : ex cf wf (.for_ p it b) = fun ρ S => (evIt cf it ρ S).thn ρ fun ig S1 => forD ig.2 (fun d ρ1 S2 => match p.bnd d ρ1 with
    | some ρ2 => exs cf wf b ρ2 S2
    | none => .stuck) ig.1 ρ S1 := by first | (rw [ex]; done) | (rw [ex]; rfl)
theorem x1_while_ {c : E} {b : Sts} : ex cf wf (.while_ c b) = fun ρ S => whileD (evT cf c) (exs cf wf b) wf ρ S := by first | (rw [ex]; done) | (rw [ex]; rfl)
theorem x1_brk  : ex cf wf .brk = fun ρ S => .ok (.bk ρ) S := by first | (rw [ex]; done) | (rw [ex]; rfl)
theorem x1_cont  : ex cf wf .cont = fun ρ S => .ok (.ct ρ) S := by first | (rw [ex]; done) | (rw [ex]; rfl)
theorem x1_pass  : ex cf wf .pass = fun ρ S => .ok (.nx ρ) S := by first | (rw [ex]; done) | (rw [ex]; rfl)
theorem x1_setF {o : E} {c : Nat} {n : Str} {v : E} : ex cf wf (.setF o c n v) = fun ρ S => (ev cf v ρ S).thn ρ fun d S1 => (ev cf o ρ S1).thn ρ fun x S2 => match insOf S2 c x with
    | some (i, fs) => if fs.length < 1000 then .ok (.nx ρ) (S2.set i (.ins c (putFD n d fs))) else .stuck
    | none => .stuck := by first | (rw [ex]; done) | (rw [ex]; rfl)
theorem x1_raise_ {c : Nat} : ex cf wf (.raise_ c) = fun ρ S => .exc c ρ S := by first | (rw [ex]; done) | (rw [ex]; rfl)
theorem x1_try_ {es : List Nat} {b : Sts} {hs : List (Nat × Su)} : ex cf wf (.try_ es b hs) = fun ρ S => tryRS es hs (exs cf wf b ρ S) := by first | (rw [ex]; done) | (rw [ex]; rfl)
theorem x1_lk {e : E} {s : NT.St} : ex cf wf (.lk e s) = fun ρ S => lkRS (ev cf e ρ S) S (ex cf wf s ρ) := by first | (rw [ex]; done) | (rw [ex]; rfl)
theorem xs_nil  : exs cf wf .nil = fun ρ S => .ok (.nx ρ) S := by first | (rw [exs]; done) | (rw [exs]; rfl)
theorem xs_cons {s : NT.St} {r : Sts} : exs cf wf (.cons s r) = fun ρ S => (ex cf wf s ρ S).seq fun ρ' S' => exs cf wf r ρ' S' := by first | (rw [exs]; done) | (rw [exs]; rfl)
end
@[simp] theorem plain1 (m : Env → Sto → R D) : (plainE m).1 = m := rfl
@[simp] theorem plain2 (m : Env → Sto → R D) (ρ : Env) (S : Sto) : (plainE m).2 ρ S = (m ρ S).bind fun x S1 => match truB S1 x with
  | some b => .ok b S1
  | none => .stuck := rfl
@[simp] theorem bool1 (m : Env → Sto → R D) : (boolE m).1 = m := rfl
@[simp] theorem bool2 (m : Env → Sto → R D) (ρ : Env) (S : Sto) : (boolE m).2 ρ S = (m ρ S).bind fun x S1 => match x with
  | .bl b => .ok b S1
  | _ => .stuck := rfl
@[simp] theorem orR_tt {S : Sto} {k : R D} : orR (.bl true) S k = .ok (.bl true) S := rfl
@[simp] theorem orR_ff {S : Sto} {k : R D} : orR (.bl false) S k = k := rfl
@[simp] theorem orR_ok {S : Sto} {b c : Bool} : orR (.bl b) S (.ok (.bl c) S) = .ok (.bl (b || c)) S := by cases b <;> rfl
@[simp] theorem andR_tt {S : Sto} {k : R D} : andR (.bl true) S k = k := rfl
@[simp] theorem andR_ff {S : Sto} {k : R D} : andR (.bl false) S k = .ok (.bl false) S := rfl
@[simp] theorem andR_ok {S : Sto} {b c : Bool} : andR (.bl b) S (.ok (.bl c) S) = .ok (.bl (b && c)) S := by cases b <;> rfl
@[simp] theorem ite_orR {S : Sto} {p : Prop} [Decidable p] {c : Bool} : (if p then R.ok true S else R.ok c S) = R.ok (decide p || c) S := by by_cases h : p <;> simp [h]
@[simp] theorem ite_andR {S : Sto} {p : Prop} [Decidable p] {c : Bool} : (if p then R.ok c S else R.ok false S) = R.ok (decide p && c) S := by by_cases h : p <;> simp [h]
@[simp] theorem evT_eq (cf : Nat → List D → Sto → R D) (e : E) : evT cf e = (ev2 cf e).2 := rfl
@[simp] theorem ev_eq (cf : Nat → List D → Sto → R D) (e : E) : ev cf e = (ev2 cf e).1 := rfl
section
variable {A B : Type} {S : Sto} {ρ : Env}
@[simp] theorem rbind_ok {a : A} {k : A → Sto → R B} : (R.ok a S).bind k = k a S := rfl
@[simp] theorem rthn_ok {a : A} {k : A → Sto → RS} : (R.ok a S).thn ρ k = k a S := rfl
@[simp] theorem rseq_nx {k : Env → Sto → RS} : (RS.ok (.nx ρ) S).seq k = k ρ S := rfl
@[simp] theorem rseq_rt {k : Env → Sto → RS} {d : D} : (RS.ok (.rt d) S).seq k = .ok (.rt d) S := rfl
@[simp] theorem rseq_bk {k : Env → Sto → RS} : (RS.ok (.bk ρ) S).seq k = .ok (.bk ρ) S := rfl
@[simp] theorem rseq_ct {k : Env → Sto → RS} : (RS.ok (.ct ρ) S).seq k = .ok (.ct ρ) S := rfl
@[simp] theorem lift_some {d : D} : liftO (some (d, S)) = .ok d S := rfl
@[simp] theorem callR_rt {d : D} : callR (.ok (.rt d) S) = .ok d S := rfl
@[simp] theorem callR_nx : callR (.ok (.nx ρ) S) = .ok .non S := rfl
end
@[simp] theorem bop_add : Bop.f .add = addD := rfl
@[simp] theorem bop_sub : Bop.f .sub = subD := rfl
@[simp] theorem bop_mul : Bop.f .mul = mulD := rfl
@[simp] theorem bop_mod : Bop.f .mod = modD := rfl
@[simp] theorem bop_fdiv : Bop.f .fdiv = fdivD := rfl
@[simp] theorem cop_eq : Cop.f .eq = eqD := rfl
@[simp] theorem cop_ne : Cop.f .ne = neD := rfl
@[simp] theorem cop_is : Cop.f .is = isD := rfl
@[simp] theorem cop_isnot : Cop.f .isnot = isnotD := rfl
@[simp] theorem cop_mem : Cop.f .mem = inG fun b => b := rfl
@[simp] theorem cop_nmem : Cop.f .nmem = inG fun b => !b := rfl
@[simp] theorem bi_len : Bi.f .len = lenD := rfl
@[simp] theorem bi_abs : Bi.f .abs = absD := rfl
@[simp] theorem bi_max : Bi.f .max = maxD := rfl
@[simp] theorem bi_min : Bi.f .min = minD := rfl
@[simp] theorem bi_all : Bi.f .all = allD := rfl
@[simp] theorem bi_any : Bi.f .any = anyD := rfl
@[simp] theorem bi_sum : Bi.f .sum = sumD := rfl
@[simp] theorem bi_sorted : Bi.f .sorted = sortedD := rfl
@[simp] theorem bi_isi : Bi.f .isi = isiD := rfl
@[simp] theorem bt_tuple : Bt.f .tuple = tupleD := rfl
@[simp] theorem bt_ptuple : Bt.f .ptuple = ptupleD := rfl
@[simp] theorem bt_list : Bt.f .list = listD := rfl
@[simp] theorem bt_int : Bt.f .int = intD := rfl
@[simp] theorem mth_append : Mth.f .append = appendD := rfl
@[simp] theorem mth_extend : Mth.f .extend = extendD := rfl
@[simp] theorem mth_popL : Mth.f .popL = popLD := rfl
@[simp] theorem mth_dget : Mth.f .dget = dgetD := rfl
@[simp] theorem mth_dpop : Mth.f .dpop = dpopD := rfl
@[simp] theorem mth_insert : Mth.f .insert = insertD := rfl
@[simp] theorem mth_remove : Mth.f .remove = removeD := rfl
@[simp] theorem mth_setdef : Mth.f .setdef = setdefD := rfl
@[simp] theorem madeR_ok {i : Nat} {S : Sto} : madeR i (.ok .non S) = .ok (.ref i) S := rfl
@[simp] theorem pairUp_nil : pairUp [] = some [] := rfl
@[simp] theorem pairUp_cons {k v : D} {r : List D} : pairUp (k :: v :: r) = match keyOf k, pairUp r with
    | some kk, some kvs => some ((kk, v) :: kvs)
    | _, _ => none := rfl
section
variable {S : Sto} {ds es : List D} {i j : Int}
@[simp] theorem idx_tup : idxD S [.tup ds, .int i] = (atI ds i).map fun e => (e, S) := rfl
@[simp] theorem idx_lst : idxD S [.lst ds, .int i] = (atI ds i).map fun e => (e, S) := rfl
@[simp] theorem idx_wl : idxD S [.wl ds, .int i] = (atI ds i).map fun e => (e, S) := rfl
@[simp] theorem add_int : addD S [.int i, .int j] = some (.int (i + j), S) := rfl
@[simp] theorem sub_int : subD S [.int i, .int j] = some (.int (i - j), S) := rfl
@[simp] theorem abs_int : absD S [.int i] = some (.int (if i < 0 then -i else i), S) := rfl
@[simp] theorem max_int : maxD S [.int i, .int j] = some (.int (if j > i then j else i), S) := rfl
@[simp] theorem min_int : minD S [.int i, .int j] = some (.int (if j < i then j else i), S) := rfl
@[simp] theorem max_int4 {a b c d : Int} : maxD S [.int a, .int b, .int c, .int d] = some (.int (max (max (max a b) c) d), S) := by
  show some (D.int (best4 (fun x m => decide (x > m)) a b c d), S) = _
  rw [best4_max]
@[simp] theorem eq_int' : eqD S [.int i, .int j] = some (.bl (decide (i = j)), S) := eqD_int
@[simp] theorem ne_int' : neD S [.int i, .int j] = some (.bl (!decide (i = j)), S) := neD_int
@[simp] theorem lt_int' : Cop.f .lt S [.int i, .int j] = some (.bl (decide (i < j)), S) := ltD_int
@[simp] theorem gt_int' : Cop.f .gt S [.int i, .int j] = some (.bl (decide (j < i)), S) := gtD_int
@[simp] theorem le_int' : Cop.f .le S [.int i, .int j] = some (.bl (decide (i ≤ j)), S) := leD_int
@[simp] theorem ge_int' : Cop.f .ge S [.int i, .int j] = some (.bl (decide (j ≤ i)), S) := geD_int
@[simp] theorem tuple_lst : tupleD S [.lst ds] = some (.tup ds, S) := rfl
@[simp] theorem ptuple_lst : ptupleD S [.lst ds] = some (.pt ds, S) := rfl
@[simp] theorem asSeq_pt : asSeq S (.pt ds) = some (false, ds) := rfl
@[simp] theorem gOf_pt : gOf (.pt ds) es = [] := rfl
@[simp] theorem mul_lst {i : Int} : mulD S [.lst ds, .int i] = if 0 ≤ i ∧ i ≤ 1000 ∧ ds.length ≤ 1000 then some (.lst (List.replicate i.toNat ds).flatten, S) else none := rfl
@[simp] theorem tuple_pt : tupleD S [.pt ds] = none := rfl
@[simp] theorem tuple_tup : tupleD S [.tup ds] = some (.tup ds, S) := rfl
@[simp] theorem list_tup : listD S [.tup ds] = some (.lst ds, S) := rfl
@[simp] theorem list_lst : listD S [.lst ds] = some (.lst ds, S) := rfl
@[simp] theorem int_int : intD S [.int i] = some (.int i, S) := rfl
@[simp] theorem int_bl {b : Bool} : intD S [.bl b] = some (.int (if b then 1 else 0), S) := rfl
@[simp] theorem len_tup : lenD S [.tup ds] = some (.int ds.length, S) := rfl
@[simp] theorem len_lst : lenD S [.lst ds] = some (.int ds.length, S) := rfl
@[simp] theorem len_wl : lenD S [.wl ds] = some (.int ds.length, S) := rfl
@[simp] theorem is_non {d : D} : isD S [d, .non] = some (.bl d.isN, S) := rfl
@[simp] theorem isnot_non {d : D} : isnotD S [d, .non] = some (.bl (!d.isN), S) := rfl
@[simp] theorem isN_non : D.isN .non = true := rfl
@[simp] theorem isN_int : D.isN (.int i) = false := rfl
@[simp] theorem isN_tup : D.isN (.tup ds) = false := rfl
@[simp] theorem isN_bl {b : Bool} : D.isN (.bl b) = false := rfl
@[simp] theorem isN_str {x : PySem.Str} : D.isN (.str x) = false := rfl
@[simp] theorem isN_lst : D.isN (.lst ds) = false := rfl
@[simp] theorem tru_bl {b : Bool} : truB S (.bl b) = some b := rfl
@[simp] theorem tru_int : truB S (.int i) = some (i != 0) := rfl
@[simp] theorem tru_non : truB S .non = some false := rfl
@[simp] theorem tru_tup : truB S (.tup ds) = some (!ds.isEmpty) := rfl
@[simp] theorem tru_lst : truB S (.lst ds) = some (!ds.isEmpty) := rfl
@[simp] theorem tru_wl : truB S (.wl ds) = some (!ds.isEmpty) := rfl
@[simp] theorem bnd_nm {p : Nat} {d : D} {ρ : Env} : (Pat.nm p).bnd d ρ = some (ρ.set p (some d)) := rfl
@[simp] theorem bnd_tp {is : List Nat} {ρ : Env} : (Pat.tp is).bnd (.tup ds) ρ = setAll is ds ρ := rfl
@[simp] theorem bnd_tl {is : List Nat} {ρ : Env} : (Pat.tl is).bnd (.lst ds) ρ = setAll is ds ρ := rfl
@[simp] theorem bnd_tn {ps : List (Nat ⊕ List Nat)} {ρ : Env} : (Pat.tn ps).bnd (.tup ds) ρ = set2 ps ds ρ := rfl
@[simp] theorem set2_nil {ρ : Env} : set2 [] [] ρ = some ρ := rfl
@[simp] theorem set2_inl {p : Nat} {ps : List (Nat ⊕ List Nat)} {d : D} {ρ : Env} : set2 (.inl p :: ps) (d :: ds) ρ = set2 ps ds (ρ.set p (some d)) := rfl
@[simp] theorem set2_inr {is : List Nat} {ps : List (Nat ⊕ List Nat)} {ρ : Env} : set2 (.inr is :: ps) (.tup es :: ds) ρ = (setAll is es ρ).bind (set2 ps ds) := rfl
@[simp] theorem turn_tup : turnD S (.tup ds) = some (.tup ds.reverse) := rfl
@[simp] theorem turn_lst : turnD S (.lst ds) = some (.lst ds.reverse) := rfl
@[simp] theorem cst_int {i : Int} : (Cst.int i).d = .int i := rfl
@[simp] theorem cst_str {x : PySem.Str} : (Cst.str x).d = .str x := rfl
@[simp] theorem bt_dict : Bt.f .dict = dictD := rfl
@[simp] theorem setAll_nil {ρ : Env} : setAll [] [] ρ = some ρ := rfl
@[simp] theorem setAll_cons {p : Nat} {is : List Nat} {d : D} {ρ : Env} : setAll (p :: is) (d :: ds) ρ = setAll is ds (ρ.set p (some d)) := rfl
@[simp] theorem asSeq_tup : asSeq S (.tup ds) = some (false, ds) := rfl
@[simp] theorem asSeq_lst : asSeq S (.lst ds) = some (true, ds) := rfl
@[simp] theorem asSeq_wl : asSeq S (.wl ds) = some (true, ds) := rfl
@[simp] theorem gOf_tup : gOf (.tup ds) es = [] := rfl
@[simp] theorem gOf_lst : gOf (.lst ds) es = [] := rfl
@[simp] theorem gOf_wl : gOf (.wl ds) es = [] := rfl
@[simp] theorem gOf_ref {i : Nat} : gOf (.ref i) es = [(i, es)] := rfl
@[simp] theorem at_0 {a : D} : atI (a :: ds) 0 = some a := by rw [atI]; simp [ixN]
@[simp] theorem at_1 {a b : D} : atI (a :: b :: ds) 1 = some b := by
  simp only [atI, ixN, List.length_cons]
  rw [if_pos (by decide), if_pos (by omega)]
  rfl
@[simp] theorem at_2 {a b c : D} : atI (a :: b :: c :: ds) 2 = some c := by
  simp only [atI, ixN, List.length_cons]
  rw [if_pos (by decide), if_pos (by omega)]
  rfl
@[simp] theorem at_3 {a b c d : D} : atI (a :: b :: c :: d :: ds) 3 = some d := by
  simp only [atI, ixN, List.length_cons]
  rw [if_pos (by decide), if_pos (by omega)]
  rfl
@[simp] theorem szE : sizeLine = 16777216 := sizeLine_eq
@[simp] theorem wipe_nil {ρ : Env} : wipeD ρ [] = ρ := rfl
@[simp] theorem wipe_cons {ρ : Env} {v : Nat} {vs : List Nat} : wipeD ρ (v :: vs) = (wipeD ρ vs).set v none := rfl
end

/-! ### the town: how many draws are left, what stays -/
def Tn (k : Nat) (S : Sto) : Prop := ∃ zs, S[0]? = some (.lst zs) ∧ zs.length + k < 16777216
structure Go (c : Nat) (S S' : Sto) : Prop where
  len : S.length ≤ S'.length
  old : ∀ i, i ≠ 0 → i < S.length → S'[i]? = S[i]?
  town : ∀ k, Tn (c + k) S → Tn k S'
theorem Tn.mono {k l : Nat} {S : Sto} (h : Tn k S) (q : l ≤ k) : Tn l S := by
  obtain ⟨zs, e, h⟩ := h
  exact ⟨zs, e, by omega⟩
theorem Go.refl (S : Sto) : Go 0 S S := ⟨Nat.le_refl _, fun _ _ _ => rfl, fun k h => h.mono (by omega)⟩
theorem Go.trans {c d : Nat} {S S' S'' : Sto} (h : Go c S S') (h' : Go d S' S'') : Go (c + d) S S'' :=
  ⟨Nat.le_trans h.len h'.len, fun i h0 hi => (h'.old i h0 (Nat.lt_of_lt_of_le hi h.len)).trans (h.old i h0 hi), fun k t => h'.town k (h.town (d + k) (t.mono (by omega)))⟩
theorem Go.mono {c d : Nat} {S S' : Sto} (h : Go c S S') (q : c ≤ d) : Go d S S' := ⟨h.len, h.old, fun k t => h.town k (t.mono (by omega))⟩
/-- a cell laid behind the others -/
theorem Go.push {S : Sto} (c : Cell) (h : 0 < S.length) : Go 0 S (S ++ [c]) := by
  refine ⟨by simp, fun i _ hi => by rw [List.getElem?_append_left hi], fun k t => ?_⟩
  obtain ⟨zs, e, q⟩ := t
  exact ⟨zs, by rw [List.getElem?_append_left h]; exact e, by omega⟩
theorem Tn.pos {k : Nat} {S : Sto} (h : Tn k S) : 0 < S.length := by
  obtain ⟨zs, e, _⟩ := h
  exact (List.getElem?_eq_some_iff.mp e).1
/-- a cell that is no town's, written, behind where one looks -/
theorem Go.set {S : Sto} {i : Nat} (c : Cell) (S0 : Sto) {k : Nat} (h : Go k S0 S) (hi : S0.length ≤ i) (h0 : i ≠ 0) : Go k S0 (S.set i c) := by
  refine ⟨by simpa using h.len, fun j hj hl => ?_, fun l t => ?_⟩
  · rw [List.getElem?_set_ne (by omega)]
    exact h.old j hj hl
  · obtain ⟨zs, e, q⟩ := h.town l t
    exact ⟨zs, by rw [List.getElem?_set_ne h0]; exact e, q⟩
theorem fmod_rng {a b : Int} (h : 0 < b) : 0 ≤ a.fmod b ∧ a.fmod b < b := ⟨Int.fmod_nonneg_of_pos a h, Int.fmod_lt_of_pos a h⟩
theorem at_in {α : Type} {xs : List α} {i : Int} (h0 : 0 ≤ i) (h : i < xs.length) : atI xs i = xs[i.toNat]? := by
  unfold atI ixN
  rw [if_pos h0, if_pos h]
  rfl
@[simp] theorem mod_int {S : Sto} {i j : Int} : modD S [.int i, .int j] = if j ≠ 0 then some (.int (i.fmod j), S) else none := rfl
@[simp] theorem mul_int {S : Sto} {i j : Int} : mulD S [.int i, .int j] = if CMul i j then some (.int (i * j), S) else none := rfl
@[simp] theorem fdiv_int {S : Sto} {i j : Int} : fdivD S [.int i, .int j] = if CDivN i j then some (.int (i.fdiv j), S) else none := rfl
theorem cmulL {i j : Int} (h : -18446744073709551616 < i) (h' : i < 18446744073709551616) : CMul i j := .inl ⟨by omega, by omega⟩
theorem cmulR {i j : Int} (h : -18446744073709551616 < j) (h' : j < 18446744073709551616) : CMul i j := .inr ⟨by omega, by omega⟩
/-- the script, asked at a place that it has -/
theorem script_at (ns : List Int) (h : ns ≠ []) (k : Int) : ∃ x, atI (ns.map D.int) (k.fmod ns.length) = some (.int x) := by
  have hp : 0 < ns.length := List.length_pos_iff.mpr h
  have hr := fmod_rng (a := k) (b := ns.length) (by omega)
  rw [at_in hr.1 (by simpa using hr.2), List.getElem?_map]
  have : (k.fmod ns.length).toNat < ns.length := by omega
  rw [List.getElem?_eq_getElem this]
  exact ⟨_, rfl⟩
@[simp] theorem isNo_no  : E.isNo (.no) = true := rfl
@[simp] theorem isNo_var {i : Nat} : E.isNo (.var i) = false := rfl
@[simp] theorem isNo_lit {d : D} : E.isNo (.lit d) = false := rfl
@[simp] theorem isNo_ty {n : String} : E.isNo (.ty n) = false := rfl
@[simp] theorem isNo_fn {i : Nat} : E.isNo (.fn i) = false := rfl
@[simp] theorem isNo_bin {o : Bop} {a b : E} : E.isNo (.bin o a b) = false := rfl
@[simp] theorem isNo_neg {a : E} : E.isNo (.neg a) = false := rfl
@[simp] theorem isNo_cmp {o : Cop} {a b : E} : E.isNo (.cmp o a b) = false := rfl
@[simp] theorem isNo_cmp2 {o p : Cop} {a b c : E} : E.isNo (.cmp2 o p a b c) = false := rfl
@[simp] theorem isNo_and {a b : E} : E.isNo (.and a b) = false := rfl
@[simp] theorem isNo_or {a b : E} : E.isNo (.or a b) = false := rfl
@[simp] theorem isNo_one {a : E} : E.isNo (.one a) = false := rfl
@[simp] theorem isNo_not {a : E} : E.isNo (.not a) = false := rfl
@[simp] theorem isNo_ite {a b c : E} : E.isNo (.ite a b c) = false := rfl
@[simp] theorem isNo_call {f : Nat} {es : Es} : E.isNo (.call f es) = false := rfl
@[simp] theorem isNo_bi {b : Bi} {es : Es} : E.isNo (.bi b es) = false := rfl
@[simp] theorem isNo_bt {b : Bt} {es : Es} : E.isNo (.bt b es) = false := rfl
@[simp] theorem isNo_mth {m : Mth} {o : E} {es : Es} : E.isNo (.mth m o es) = false := rfl
@[simp] theorem isNo_idx {a b : E} : E.isNo (.idx a b) = false := rfl
@[simp] theorem isNo_slc {a b c : E} : E.isNo (.slc a b c) = false := rfl
@[simp] theorem isNo_rev {a : E} : E.isNo (.rev a) = false := rfl
@[simp] theorem isNo_glo {x : PySem.Str} {k : Cst} : E.isNo (.glo x k) = false := rfl
@[simp] theorem isNo_callL {i : Nat} {fs : List Nat} {es : Es} : E.isNo (.callL i fs es) = false := rfl
@[simp] theorem isNo_tup {es : Es} : E.isNo (.tup es) = false := rfl
@[simp] theorem isNo_sset {a : E} : E.isNo (.sset a) = false := rfl
@[simp] theorem isNo_dKs {es : Es} : E.isNo (.dKs es) = false := rfl
@[simp] theorem isNo_lk {e b : E} : E.isNo (.lk e b) = false := rfl
@[simp] theorem isNo_meth {c f : Nat} {m : PySem.Str} {o : E} {es : Es} : E.isNo (.meth c m f o es) = false := rfl
@[simp] theorem isNo_make {c f : Nat} {es : Es} : E.isNo (.make c f es) = false := rfl
@[simp] theorem isNo_fld {o : E} {c : Nat} {n : PySem.Str} : E.isNo (.fld o c n) = false := rfl
@[simp] theorem isNo_lst {es : Es} : E.isNo (.lst es) = false := rfl
end NT
/-! statements, read one by one -/
namespace NT
open PySem
def Sts.app : Sts → Sts → Sts
  | .nil, r => r
  | .cons s a, r => .cons s (a.app r)
@[simp] theorem app_nil (r : Sts) : Sts.nil.app r = r := rfl
@[simp] theorem app_cons (s : NT.St) (a r : Sts) : (Sts.cons s a).app r = .cons s (a.app r) := rfl
section
variable {cf : Nat → List D → Sto → R D} {wf : Nat} {S : Sto} {ρ : Env} {Q : Fl → Sto → Prop} {r : Sts}
theorem RS.seq_seq (x : RS) (k k' : Env → Sto → RS) : (x.seq k).seq k' = x.seq fun ρ S => (k ρ S).seq k' := by
  cases x with
  | ok f S => cases f <;> rfl
  | exc c ρ S => rfl
  | stuck => rfl
theorem exs_app : ∀ (a r : Sts) (ρ : Env) (S : Sto), exs cf wf (a.app r) ρ S = (exs cf wf a ρ S).seq (exs cf wf r)
  | .nil, r, ρ, S => by rw [xs_nil]; rfl
  | .cons s a, r, ρ, S => by
    rw [app_cons, xs_cons, xs_cons]
    show _ = ((ex cf wf s ρ S).seq fun ρ' S' => exs cf wf a ρ' S').seq (exs cf wf r)
    rw [RS.seq_seq]
    have : (fun ρ' S' => exs cf wf (a.app r) ρ' S') = fun ρ S => (exs cf wf a ρ S).seq (exs cf wf r) := funext fun ρ' => funext fun S' => exs_app a r ρ' S'
    show (ex cf wf s ρ S).seq (fun ρ' S' => exs cf wf (a.app r) ρ' S') = _
    rw [this]
@[simp] theorem To_ok {A : Type} {a : A} {Q : A → Sto → Prop} : (R.ok a S).To Q ↔ Q a S := ⟨fun ⟨_, _, e, h⟩ => by cases e; exact h, fun h => ⟨_, _, rfl, h⟩⟩
theorem to_nil (h : Q (.nx ρ) S) : (exs cf wf .nil ρ S).To Q := by
  rw [xs_nil]
  exact .ok h
theorem to_asg {p : Pat} {e : E} (h : ((ev2 cf e).1 ρ S).To fun d S1 => ∃ ρ', p.bnd d ρ = some ρ' ∧ (exs cf wf r ρ' S1).To Q) : (exs cf wf (.cons (.asg p e) r) ρ S).To Q := by
  obtain ⟨d, S1, e1, ρ', e2, h⟩ := h
  rw [xs_cons, x1_asg]
  show (((ev2 cf e).1 ρ S).thn ρ _ |>.seq _).To Q
  rw [e1]
  simp only [rthn_ok, e2, rseq_nx]
  exact h
theorem to_nm {i : Nat} {e : E} (h : ((ev2 cf e).1 ρ S).To fun d S1 => (exs cf wf r (ρ.set i (some d)) S1).To Q) : (exs cf wf (.cons (.asg (.nm i) e) r) ρ S).To Q :=
  to_asg (h.mono fun d S1 h => ⟨_, rfl, h⟩)
theorem to_exp {e : E} (h : ((ev2 cf e).1 ρ S).To fun _ S1 => (exs cf wf r ρ S1).To Q) : (exs cf wf (.cons (.exp e) r) ρ S).To Q := by
  obtain ⟨d, S1, e1, h⟩ := h
  rw [xs_cons, x1_exp]
  show (((ev2 cf e).1 ρ S).thn ρ _ |>.seq _).To Q
  rw [e1]
  exact h
theorem to_setI {o k v : E} (h : ((ev2 cf v).1 ρ S).To fun x S1 => ((ev2 cf o).1 ρ S1).To fun y S2 => ((ev2 cf k).1 ρ S2).To fun z S3 => ∃ S4, setS S3 y z x = some S4 ∧ (exs cf wf r ρ S4).To Q) : (exs cf wf (.cons (.setI o k v) r) ρ S).To Q := by
  obtain ⟨x, S1, e1, y, S2, e2, z, S3, e3, S4, e4, h⟩ := h
  rw [xs_cons, x1_setI]
  show (((ev2 cf v).1 ρ S).thn ρ _ |>.seq _).To Q
  rw [e1, rthn_ok]
  show (((ev2 cf o).1 ρ S1).thn ρ _ |>.seq _).To Q
  rw [e2, rthn_ok]
  show (((ev2 cf k).1 ρ S2).thn ρ _ |>.seq _).To Q
  rw [e3, rthn_ok]
  simp only [e4, rseq_nx]
  exact h
theorem to_ret {e : E} (h : ((ev2 cf e).1 ρ S).To fun d S1 => Q (.rt d) S1) : (exs cf wf (.cons (.ret e) r) ρ S).To Q := by
  obtain ⟨d, S1, e1, h⟩ := h
  rw [xs_cons, x1_ret]
  show (((ev2 cf e).1 ρ S).thn ρ _ |>.seq _).To Q
  rw [e1]
  exact .ok h
theorem to_retN (h : Q (.rt .non) S) : (exs cf wf (.cons .retN r) ρ S).To Q := by
  rw [xs_cons, x1_retN]
  exact .ok h
theorem to_brk (h : Q (.bk ρ) S) : (exs cf wf (.cons .brk r) ρ S).To Q := by
  rw [xs_cons, x1_brk]
  exact .ok h
theorem to_cont (h : Q (.ct ρ) S) : (exs cf wf (.cons .cont r) ρ S).To Q := by
  rw [xs_cons, x1_cont]
  exact .ok h
theorem to_pass (h : (exs cf wf r ρ S).To Q) : (exs cf wf (.cons .pass r) ρ S).To Q := by
  rw [xs_cons, x1_pass]
  exact h
theorem to_ite {c : E} {a b : Sts} (h : ((ev2 cf c).2 ρ S).To fun t S1 => (t = true → (exs cf wf (a.app r) ρ S1).To Q) ∧ (t = false → (exs cf wf (b.app r) ρ S1).To Q)) : (exs cf wf (.cons (.ite c a b) r) ρ S).To Q := by
  obtain ⟨t, S1, e1, h⟩ := h
  rw [xs_cons, x1_ite]
  show (((ev2 cf c).2 ρ S).thn ρ _ |>.seq _).To Q
  rw [e1]
  cases t with
  | true =>
    have := h.1 rfl
    rw [exs_app] at this
    exact this
  | false =>
    have := h.2 rfl
    rw [exs_app] at this
    exact this
theorem to_iteJ {c : E} {a b : Sts} (M : Env → Sto → Prop) (h : ((ev2 cf c).2 ρ S).To fun t S1 => (t = true → (exs cf wf a ρ S1).To fun f S' => match f with | .nx ρ' => M ρ' S' | .ct ρ' => Q (.ct ρ') S' | .bk ρ' => Q (.bk ρ') S' | .rt v => Q (.rt v) S') ∧ (t = false → (exs cf wf b ρ S1).To fun f S' => match f with | .nx ρ' => M ρ' S' | .ct ρ' => Q (.ct ρ') S' | .bk ρ' => Q (.bk ρ') S' | .rt v => Q (.rt v) S'))
    (hr : ∀ ρ S, M ρ S → (exs cf wf r ρ S).To Q) : (exs cf wf (.cons (.ite c a b) r) ρ S).To Q := by
  rw [xs_cons, x1_ite]
  obtain ⟨t, S1, e1, h1, h2⟩ := h
  show (((ev2 cf c).2 ρ S).thn ρ _ |>.seq _).To Q
  rw [e1, rthn_ok]
  have go : ∀ x : RS, (x.To fun f S' => match f with | .nx ρ' => M ρ' S' | .ct ρ' => Q (.ct ρ') S' | .bk ρ' => Q (.bk ρ') S' | .rt v => Q (.rt v) S') → (x.seq (exs cf wf r)).To Q := by
    rintro x ⟨f, S', rfl, q⟩
    cases f with
    | nx ρ' => exact hr _ _ q
    | ct ρ' => exact .ok q
    | bk ρ' => exact .ok q
    | rt v => exact .ok q
  cases t with
  | true => exact go _ (h1 rfl)
  | false => exact go _ (h2 rfl)
theorem to_for {p : Pat} {it : It} {b : Sts} {items : List D} {gs : Gs} {S1 : Sto} (hi : evIt cf it ρ S = .ok (items, gs) S1) (I : List D → Env → Sto → Prop) (h0 : I items ρ S1) (hg : ∀ ds ρ S, I ds ρ S → gok gs S)
    (hs : ∀ d ds ρ S, I (d :: ds) ρ S → ∃ ρ2, p.bnd d ρ = some ρ2 ∧ (exs cf wf b ρ2 S).To fun f S' => match f with | .nx ρ' => I ds ρ' S' | .ct ρ' => I ds ρ' S' | .bk ρ' => (exs cf wf r ρ' S').To Q | .rt v => Q (.rt v) S')
    (he : ∀ ρ S, I [] ρ S → (exs cf wf r ρ S).To Q) : (exs cf wf (.cons (.for_ p it b) r) ρ S).To Q := by
  rw [xs_cons, x1_for_]
  show (((evIt cf it ρ S).thn ρ _).seq _).To Q
  rw [hi, rthn_ok]
  refine RS.To.seq (Q0 := fun f S' => match f with | .nx ρ' => (exs cf wf r ρ' S').To Q | f => Q f S') (forD_To I hg he (fun d ds ρ S h => ?_) items ρ S1 h0) (fun ρ S h => h) (fun f S h hf => ?_)
  · obtain ⟨ρ2, e, h⟩ := hs d ds ρ S h
    simp only [e]
    exact h.mono fun f S' q => by cases f <;> exact q
  · cases f with
    | nx ρ => exact absurd rfl (hf ρ)
    | _ => exact h
/-- a def called -/
theorem run_To {F : List FI} {n i : Nat} {fi : FI} (h : F[i]? = some fi) {ds : List D} {S : Sto} {Q : D → Sto → Prop} (hl : ds.length = fi.ps.length)
    (hb : (exs (run F wf n) wf fi.body (ds.map some ++ List.replicate (fi.N.length - ds.length) none) S).To fun f S => match f with | .nx _ => Q .non S | .rt d => Q d S | _ => False) : (run F wf (n + 1) i ds S).To Q := by
  rw [run_at h S hl]
  exact callR_To hb
end
theorem lcD_all {A : Type} {gs : Gs} {turn : D → Sto → R (Option D)} {S : Sto} (g : A → D) (o : A → D) (hg : gok gs S) (xs : List A) (h : ∀ x ∈ xs, turn (g x) S = .ok (some (o x)) S) : lcD gs turn (xs.map g) [] S = .ok (xs.map o) S := by
  rw [lcD_map g (fun x => some (o x)) hg xs h, List.filterMap_eq_map']
theorem filterMap_ite {A B : Type} (c : A → Bool) (o : A → B) : ∀ xs : List A, xs.filterMap (fun x => if c x = true then some (o x) else none) = (xs.filter c).map o
  | [] => rfl
  | x :: xs => by
    rw [List.filterMap_cons, filterMap_ite c o xs]
    cases e : c x with
    | true => simp [List.filter_cons, e]
    | false => simp [List.filter_cons, e]
theorem lcD_filt {A : Type} {gs : Gs} {turn : D → Sto → R (Option D)} {S : Sto} (g : A → D) (c : A → Bool) (o : A → D) (hg : gok gs S) (xs : List A) (h : ∀ x ∈ xs, turn (g x) S = .ok (if c x = true then some (o x) else none) S) : lcD gs turn (xs.map g) [] S = .ok ((xs.filter c).map o) S := by
  rw [lcD_map g (fun x => if c x = true then some (o x) else none) hg xs h, filterMap_ite]
theorem To_bind {A B : Type} {r : R A} {k : A → Sto → R B} {Q : B → Sto → Prop} : (r.bind k).To Q ↔ r.To fun a S => (k a S).To Q := by
  constructor
  · intro h
    obtain ⟨b, S, e, q⟩ := h
    cases r with
    | ok a S1 => exact ⟨a, S1, rfl, b, S, e, q⟩
    | exc c S1 => cases e
    | stuck => cases e
  · intro h
    obtain ⟨a, S, rfl, q⟩ := h
    exact q
/-! a loop, turn by turn -/
section
variable {cf : Nat → List D → Sto → R D} {wf : Nat} {S : Sto} {ρ : Env} {Q : Fl → Sto → Prop} {r : Sts}
noncomputable def turnOf (cf : Nat → List D → Sto → R D) (wf : Nat) (p : Pat) (b : Sts) : D → Env → Sto → RS := fun d ρ1 S2 => match p.bnd d ρ1 with
  | some ρ2 => exs cf wf b ρ2 S2
  | none => .stuck
theorem to_forL {p : Pat} {it : It} {b : Sts} {items : List D} {gs : Gs} {S1 : Sto} (hi : evIt cf it ρ S = .ok (items, gs) S1)
    (h : (forD gs (turnOf cf wf p b) items ρ S1).To fun f S' => match f with | .nx ρ' => (exs cf wf r ρ' S').To Q | f => Q f S') : (exs cf wf (.cons (.for_ p it b) r) ρ S).To Q := by
  rw [xs_cons, x1_for_]
  show (((evIt cf it ρ S).thn ρ _).seq _).To Q
  rw [hi, rthn_ok]
  refine RS.To.seq h (fun ρ S h => h) (fun f S h hf => ?_)
  cases f with
  | nx ρ => exact absurd rfl (hf ρ)
  | _ => exact h
theorem forD_step {p : Pat} {b : Sts} {gs : Gs} {d : D} {ds : List D} (hg : gok gs S) {ρ2 : Env} (hb : p.bnd d ρ = some ρ2)
    (h : (exs cf wf b ρ2 S).To fun f S' => match f with | .nx ρ' => (forD gs (turnOf cf wf p b) ds ρ' S').To Q | .ct ρ' => (forD gs (turnOf cf wf p b) ds ρ' S').To Q | .bk ρ' => Q (.nx ρ') S' | .rt v => Q (.rt v) S') : (forD gs (turnOf cf wf p b) (d :: ds) ρ S).To Q := by
  rw [forD_cons, if_pos hg]
  obtain ⟨f, S', e, q⟩ := h
  have e' : turnOf cf wf p b d ρ S = .ok f S' := by
    unfold turnOf
    rw [hb]
    exact e
  rw [e']
  cases f with
  | nx ρ' => exact q
  | ct ρ' => exact q
  | bk ρ' => exact .ok q
  | rt v => exact .ok q
theorem forD_end {p : Pat} {b : Sts} {gs : Gs} (hg : gok gs S) (h : Q (.nx ρ) S) : (forD gs (turnOf cf wf p b) [] ρ S).To Q := by
  rw [forD_nil_ok hg]
  exact .ok h
end
end NT
/-! places, things, boards, rows -/
namespace NT
open PySem L2
def dP (p : Int × Int) : D := .tup [.int p.1, .int p.2]
def cheb (p q : Int × Int) : Int := max (p.1 - q.1).natAbs (p.2 - q.2).natAbs
/-- a draw -/
def tl4 : Sts → Sts
  | .cons _ (.cons _ (.cons _ (.cons _ r))) => r
  | s => s
/-- a place -/
def PlaceOk (p : Int × Int) : Prop := 0 ≤ p.1 ∧ p.1 < 200 ∧ 0 ≤ p.2 ∧ p.2 < 200
/-- a thing -/
structure Thing where
  n : Int
  p : Int × Int
  room : Int
  g : Option Int
def dG : Option Int → D
  | none => .non
  | some i => .int i
def dT (t : Thing) : D := .tup [.int t.n, dP t.p, .int t.room, dG t.g]
structure Thing.Ok (t : Thing) : Prop where
  p : PlaceOk t.p
  room : 0 ≤ t.room ∧ t.room < 4
  g : t.g = none ∨ t.g = some 0 ∨ t.g = some 1 ∨ t.g = some 9
/-- things by number in a dict -/
def kv (ts : List Thing) : List (Key × D) := ts.map fun t => (.inl t.n, dT t)
theorem kv_put (ts : List Thing) (t : Thing) (hn : (ts.map (·.n)).Nodup) (ho : ∀ t ∈ ts, t.Ok) (h : t.Ok) : ∃ ts', putD (kv ts) (.inl t.n) (dT t) = kv ts' ∧ (ts'.map (·.n)).Nodup ∧ (∀ t ∈ ts', t.Ok) ∧ ts'.length ≤ ts.length + 1 := by
  unfold putD
  by_cases hk : ((kv ts).any fun p => decide (p.1 = Sum.inl t.n)) = true
  · rw [if_pos hk]
    refine ⟨ts.map fun u => if u.n = t.n then t else u, ?_, ?_, ?_, by simp⟩
    · unfold kv
      rw [List.map_map, List.map_map]
      refine List.map_congr_left fun u _ => ?_
      by_cases e : u.n = t.n
      · simp [e]
      · simp [e]
    · have : (ts.map fun u => if u.n = t.n then t else u).map (·.n) = ts.map (·.n) := by
        rw [List.map_map]
        refine List.map_congr_left fun u _ => ?_
        by_cases e : u.n = t.n
        · simp [e]
        · simp [e]
      rw [this]
      exact hn
    · intro u hu
      obtain ⟨v, hv, e⟩ := List.mem_map.mp hu
      subst e
      split
      · exact h
      · exact ho v hv
  · rw [if_neg hk]
    refine ⟨ts ++ [t], by simp [kv], ?_, ?_, by simp⟩
    · rw [List.map_append, List.nodup_append]
      refine ⟨hn, by simp, ?_⟩
      intro a ha b hb e
      subst e
      simp at hb
      subst hb
      apply hk
      rw [List.any_eq_true]
      obtain ⟨u, hu, e⟩ := List.mem_map.mp ha
      exact ⟨(.inl u.n, dT u), List.mem_map.mpr ⟨u, hu, rfl⟩, by simp [e]⟩
    · intro u hu
      rcases List.mem_append.mp hu with hu | hu
      · exact ho u hu
      · rw [List.mem_singleton.mp hu]
        exact h
theorem kv_look (ts : List Thing) (hn : (ts.map (·.n)).Nodup) : ∀ t ∈ ts, look (kv ts) (.inl t.n) = some (dT t) := by
  intro t ht
  unfold look
  induction ts with
  | nil => cases ht
  | cons u us ih =>
    simp only [kv, List.map_cons, List.find?_cons]
    simp only [List.map_cons, List.nodup_cons] at hn
    by_cases e : u.n = t.n
    · rcases List.mem_cons.mp ht with rfl | h
      · simp
      · exact absurd (List.mem_map.mpr ⟨t, h, e.symm⟩) hn.1
    · rcases List.mem_cons.mp ht with rfl | h
      · exact absurd rfl e
      · have : decide ((Sum.inl u.n : Key) = Sum.inl t.n) = false := by simp [e]
        rw [this]
        exact ih hn.2 h
def dB (ts : List Thing) : D := .tup (ts.map dT)
structure BoardOk (ts : List Thing) : Prop where
  ok : ∀ t ∈ ts, t.Ok
  up : ts.Pairwise fun a b => a.n < b.n
theorem sorted_things (ts : List Thing) (hn : (ts.map (·.n)).Nodup) : ∃ us : List Thing, ((ts.map (·.n)).mergeSort fun a b => decide (a ≤ b)) = us.map (·.n) ∧ (∀ u ∈ us, u ∈ ts) ∧ us.length = ts.length ∧ us.Pairwise fun a b => a.n < b.n := by
  have hp : ((ts.map (·.n)).mergeSort fun a b => decide (a ≤ b)).Perm (ts.map (·.n)) := List.mergeSort_perm _ _
  have hs : ((ts.map (·.n)).mergeSort fun a b => decide (a ≤ b)).Pairwise fun a b => a ≤ b := by
    have := List.pairwise_mergeSort (le := fun a b : Int => decide (a ≤ b)) (fun a b c h1 h2 => by simp only [decide_eq_true_eq] at *; omega) (fun a b => by simp only [Bool.or_eq_true, decide_eq_true_eq]; omega) (ts.map (·.n))
    exact this.imp fun h => by simpa using h
  have hmap : ((ts.map (·.n)).mergeSort fun a b => decide (a ≤ b)) = (ts.mergeSort fun a b => decide (a.n ≤ b.n)).map (·.n) := (List.map_mergeSort (f := fun t : Thing => t.n) (r := fun a b : Thing => decide (a.n ≤ b.n)) (s := fun a b : Int => decide (a ≤ b)) (l := ts) (fun a _ b _ => rfl)).symm
  refine ⟨_, hmap, fun u hu => List.mem_mergeSort.mp hu, by simp, ?_⟩
  rw [hmap] at hs hp
  have hnd : ((ts.mergeSort fun a b => decide (a.n ≤ b.n)).map (·.n)).Nodup := hp.symm.nodup hn
  rw [List.pairwise_map] at hs
  rw [List.Nodup, List.pairwise_map] at hnd
  exact (hs.and hnd).imp fun ⟨h1, h2⟩ => by omega
/-- data that is alike to itself -/
def tyOf : D → String
  | .non => "NoneType"
  | .bl _ => "bool"
  | .int _ => "int"
  | .str _ => "str"
  | .tup _ => "tuple"
  | _ => ""
mutual
def sm : D → Bool
  | .non => true
  | .bl _ => true
  | .int _ => true
  | .str x => PyData.strOk x
  | .tup ds => smL ds && decide (ds.length ≤ 1000000)
  | _ => false
def smL : List D → Bool
  | [] => true
  | d :: ds => sm d && smL ds
end
theorem smL_mem : ∀ {ds : List D}, smL ds = true → ∀ d ∈ ds, sm d = true ∧ dep d ≤ depL ds
  | [], _, d, h => by cases h
  | e :: es, h, d, hd => by
    simp only [smL, Bool.and_eq_true] at h
    simp only [depL]
    rcases List.mem_cons.mp hd with rfl | hd
    · exact ⟨h.1, by omega⟩
    · have := smL_mem h.2 d hd
      exact ⟨this.1, by omega⟩
theorem eqD_bl {S : Sto} {a b : Bool} : eqD S [.bl a, .bl b] = some (.bl (decide (a = b)), S) := by
  simp [eqD, D.py, D.py0, SeqAt.shaped, PyData.canLay0, PyData.depth, PyData.eqv]
  cases a <;> cases b <;> rfl
theorem eqD_str {S : Sto} {a : Str} (h : PyData.strOk a = true) : eqD S [.str a, .str a] = some (.bl true, S) := by
  simp [eqD, D.py, D.py0, SeqAt.shaped, PyData.canLay0, PyData.depth, PyData.eqv, h]
@[simp] theorem isi_bl {S : Sto} {b : Bool} : isiD S [.bl b, .ty "bool"] = some (.bl true, S) := by simp [isiD, tyName, isiB]
@[simp] theorem isi_tb {S : Sto} {ds : List D} : isiD S [.tup ds, .ty "bool"] = some (.bl false, S) := by simp [isiD, tyName, isiB]
@[simp] theorem isi_tt {S : Sto} {ds : List D} : isiD S [.tup ds, .ty "tuple"] = some (.bl true, S) := by simp [isiD, tyName, isiB]
@[simp] theorem isi_ib {S : Sto} {i : Int} : isiD S [.int i, .ty "bool"] = some (.bl false, S) := by simp [isiD, tyName, isiB]
@[simp] theorem isi_it {S : Sto} {i : Int} : isiD S [.int i, .ty "tuple"] = some (.bl false, S) := by simp [isiD, tyName, isiB]
@[simp] theorem isi_is {S : Sto} {i : Int} : isiD S [.int i, .ty "str"] = some (.bl false, S) := by simp [isiD, tyName, isiB]
@[simp] theorem isi_ii {S : Sto} {i : Int} : isiD S [.int i, .ty "int"] = some (.bl true, S) := by simp [isiD, tyName, isiB]
@[simp] theorem isi_sb {S : Sto} {i : Str} : isiD S [.str i, .ty "bool"] = some (.bl false, S) := by simp [isiD, tyName, isiB]
@[simp] theorem isi_st {S : Sto} {i : Str} : isiD S [.str i, .ty "tuple"] = some (.bl false, S) := by simp [isiD, tyName, isiB]
@[simp] theorem isi_ss {S : Sto} {i : Str} : isiD S [.str i, .ty "str"] = some (.bl true, S) := by simp [isiD, tyName, isiB]
theorem R.of_To {A : Type} {r : R A} {a : A} {S : Sto} (h : r.To fun b S' => b = a ∧ S' = S) : r = .ok a S := by
  obtain ⟨b, S', e, rfl, rfl⟩ := h
  exact e
@[simp] theorem idx_T0 {t : Thing} {S : Sto} : idxD S [dT t, .int 0] = some (.int t.n, S) := by simp [dT]
@[simp] theorem idx_T1 {t : Thing} {S : Sto} : idxD S [dT t, .int 1] = some (dP t.p, S) := by simp [dT]
@[simp] theorem idx_T2 {t : Thing} {S : Sto} : idxD S [dT t, .int 2] = some (.int t.room, S) := by simp [dT]
@[simp] theorem idx_T3 {t : Thing} {S : Sto} : idxD S [dT t, .int 3] = some (dG t.g, S) := by simp [dT]
@[simp] theorem idx_P0 {p : Int × Int} {S : Sto} : idxD S [dP p, .int 0] = some (.int p.1, S) := by simp [dP]
@[simp] theorem idx_P1 {p : Int × Int} {S : Sto} : idxD S [dP p, .int 1] = some (.int p.2, S) := by simp [dP]
@[simp] theorem seq_B {ts : List Thing} {S : Sto} : asSeq S (dB ts) = some (false, ts.map dT) := rfl
@[simp] theorem seq_P {p : Int × Int} {S : Sto} : asSeq S (dP p) = some (false, [.int p.1, .int p.2]) := rfl
@[simp] theorem gOf_P {p : Int × Int} {es : List D} : gOf (dP p) es = [] := rfl
@[simp] theorem gOf_B {ts : List Thing} {es : List D} : gOf (dB ts) es = [] := rfl
@[simp] theorem bnd_T {t : Thing} {a b c d : Nat} {ρ : Env} : (Pat.tp [a, b, c, d]).bnd (dT t) ρ = some ((((ρ.set a (some (.int t.n))).set b (some (dP t.p))).set c (some (.int t.room))).set d (some (dG t.g))) := rfl
@[simp] theorem bnd_pr {p : Int × Int} {a b : Nat} {ρ : Env} : (Pat.tp [a, b]).bnd (pr p) ρ = some ((ρ.set a (some (.int p.1))).set b (some (.int p.2))) := rfl
theorem cut_to (xs : List D) (m : Int) (h : 0 ≤ m) : cutD xs none (some m) = xs.take m.toNat := by
  unfold cutD
  obtain ⟨k, rfl⟩ := Int.eq_ofNat_of_zero_le h
  show (xs.drop 0).take (HT.sIx xs.length xs.length (some (k : Int)) - 0) = _
  rw [HT.sIx_nat]
  simp
def rowOf (p : Int × Int) (t : Thing) : Int × Int := (cheb t.p p, t.n)
def nearL (ts : List Thing) (p : Int × Int) (far : Int) : List Int := (ts.filter fun t => decide (cheb t.p p ≤ far)).map (·.n)
def nearestL (ts : List Thing) (p : Int × Int) (most : Int) : List Int := (((ts.map (rowOf p)).mergeSort prLe).take most.toNat).map (·.2)
theorem cheb_comm (p q : Int × Int) : cheb p q = cheb q p := by unfold cheb; omega
theorem cheb_nn (p q : Int × Int) : 0 ≤ cheb p q := by unfold cheb; omega
theorem smL_int : ∀ ns : List Int, smL (ns.map .int) = true
  | [] => rfl
  | n :: ns => by simp [smL, sm, smL_int ns]
theorem depL_int : ∀ ns : List Int, depL (ns.map .int) = 0
  | [] => rfl
  | n :: ns => by simp [depL, dep, depL_int ns]
theorem near_mem {ts : List Thing} {p : Int × Int} {far : Int} {k : Int} : k ∈ nearL ts p far ↔ ∃ t ∈ ts, cheb t.p p ≤ far ∧ t.n = k := by
  simp [nearL, and_assoc]
theorem pairwise_inj {ts : List Thing} (h : ts.Pairwise fun a b => a.n < b.n) : ∀ t ∈ ts, ∀ u ∈ ts, t.n = u.n → t = u := by
  induction ts with
  | nil => intro t ht; cases ht
  | cons a as ih =>
    intro t ht u hu e
    rw [List.pairwise_cons] at h
    rcases List.mem_cons.mp ht with q | q <;> rcases List.mem_cons.mp hu with r | r
    · rw [q, r]
    · have := h.1 u r
      rw [q] at e
      omega
    · have := h.1 t q
      rw [r] at e
      omega
    · exact ih h.2 t q u r e
theorem near_sorted {ts : List Thing} {p : Int × Int} {far : Int} (h : ts.Pairwise fun a b => a.n < b.n) : ((nearL ts p far).mergeSort fun a b => decide (a ≤ b)) = nearL ts p far := by
  refine List.mergeSort_of_pairwise ?_
  unfold nearL
  rw [List.pairwise_map]
  exact (h.filter _).imp fun h => by simp; omega
theorem inB_tup {S : Sto} {x : Int} {ns : List Int} : inB S (.int x) (.tup (ns.map .int)) = some (decide (x ∈ ns)) := inB_int rfl rfl
theorem asSeq_ref {S : Sto} {i : Nat} {es : List D} (h : cellL S i = some es) : asSeq S (.ref i) = some (true, es) := by
  unfold cellL at h
  split at h
  · rename_i q
    cases h
    simp [asSeq, q]
  · cases h
theorem gok_one {S : Sto} {i : Nat} {es : List D} (h : cellL S i = some es) : gok [(i, es)] S := fun p hp => by
  rw [List.mem_singleton.mp hp]
  exact h
theorem rows_near (ts : List Thing) (p : Int × Int) (far : Int) : ((ts.map (rowOf p)).filter fun q => decide (q.1 ≤ far)).map (·.2) = nearL ts p far := by
  unfold nearL
  rw [List.filter_map, List.map_map]
  rfl
theorem in_tup {g : Bool → Bool} {S : Sto} {x : Int} {ns : List Int} : inG g S [.int x, .tup (ns.map .int)] = some (.bl (g (decide (x ∈ ns))), S) := by
  simp [inG, inB_tup]
theorem cell_lt {S : Sto} {i : Nat} {es : List D} (h : cellL S i = some es) : i < S.length := by
  unfold cellL at h
  split at h
  · rename_i q
    exact (List.getElem?_eq_some_iff.mp q).1
  · cases h
theorem cell_set {S : Sto} {i : Nat} {es : List D} (h : i < S.length) : cellL (S.set i (.lst es)) i = some es := by
  unfold cellL
  rw [List.getElem?_set_self h]
theorem cell_old {k : Nat} {S S' : Sto} {i : Nat} {es : List D} (g : Go k S S') (h0 : i ≠ 0) (h : cellL S i = some es) : cellL S' i = some es := by
  have hl := cell_lt h
  unfold cellL at h ⊢
  rw [g.old i h0 hl]
  exact h
theorem add_tup {S : Sto} {a b : List D} (h : a.length + b.length ≤ 16777216) : addD S [.tup a, .tup b] = some (.tup (a ++ b), S) := by
  simp [addD, h]
theorem at_last {α : Type} (xs : List α) (x : α) : atI (xs ++ [x]) (-1) = some x := by
  have h : ixN (xs ++ [x]).length (-1) = some xs.length := by
    unfold ixN
    rw [if_neg (by decide), if_pos (by simp; omega)]
    simp
    omega
  unfold atI
  rw [h]
  simp
def iL (l : List Int) : D := .tup (l.map .int)
theorem sm_iL (l : List Int) (h : l.length ≤ 1000000) : sm (iL l) = true := by simp [iL, sm, smL_int, h]
theorem dep_iL (l : List Int) : dep (iL l) = 1 := by simp [iL, dep, depL_int]
theorem pl_iL (l : List Int) : pl (iL l) = true := by
  have : ∀ l : List Int, plL (l.map .int) = true := fun l => by
    induction l with
    | nil => rfl
    | cons a l ih => simp [plL, pl, ih]
  simp [iL, pl, this]
def pL (ps : List (Int × Int)) : D := .tup (ps.map dP)
theorem sm_dP (p : Int × Int) : sm (dP p) = true := rfl
theorem dep_dP (p : Int × Int) : dep (dP p) = 1 := rfl
theorem pl_dP (p : Int × Int) : pl (dP p) = true := rfl
theorem smL_dP : ∀ ps : List (Int × Int), smL (ps.map dP) = true
  | [] => rfl
  | p :: ps => by rw [List.map_cons, smL, sm_dP, smL_dP ps]; rfl
theorem plL_dP : ∀ ps : List (Int × Int), plL (ps.map dP) = true
  | [] => rfl
  | p :: ps => by rw [List.map_cons, plL, pl_dP, plL_dP ps]; rfl
theorem depL_dP : ∀ ps : List (Int × Int), depL (ps.map dP) ≤ 1
  | [] => Nat.zero_le _
  | p :: ps => by
    have := depL_dP ps
    rw [List.map_cons, depL, dep_dP]
    omega
theorem sm_pL {ps : List (Int × Int)} (h : ps.length ≤ 1000000) : sm (pL ps) = true := by simp [pL, sm, smL_dP, h]
theorem pl_pL (ps : List (Int × Int)) : pl (pL ps) = true := by simp [pL, pl, plL_dP]
theorem dep_pL (ps : List (Int × Int)) : dep (pL ps) ≤ 2 := by
  have := depL_dP ps
  simp [pL, dep]
  omega
/-- alike: the test says so -/
theorem ne_self {S : Sto} {d : D} (h : pl d = true) (hd : dep d ≤ 64) : neD S [d, d] = some (.bl false, S) := by
  rw [neD_pl h h hd hd]
  simp
theorem eq_self {S : Sto} {d : D} (h : pl d = true) (hd : dep d ≤ 64) : eqD S [d, d] = some (.bl true, S) := by
  rw [eqD_pl h h hd hd]
  simp
end NT
/-! while loops, fractions -/
namespace NT
open PySem L2
theorem whileD_succ {c : Env → Sto → R Bool} {body : Env → Sto → RS} {n : Nat} {ρ : Env} {S : Sto} : whileD c body (n + 1) ρ S = (c ρ S).thn ρ fun b S1 => if b = true then (match body ρ S1 with
    | .ok (.nx ρ') S' => whileD c body n ρ' S'
    | .ok (.ct ρ') S' => whileD c body n ρ' S'
    | .ok (.bk ρ') S' => .ok (.nx ρ') S'
    | r => r) else .ok (.nx ρ) S1 := rfl
theorem whileD_To {cf : Nat → List D → Sto → R D} {wf : Nat} {c : E} {b : Sts} {Q : Fl → Sto → Prop} (I : Nat → Env → Sto → Prop)
    (hs : ∀ m ρ S, I m ρ S → ∃ m', m = m' + 1 ∧ ((ev2 cf c).2 ρ S).To fun t S1 => (t = true → (exs cf wf b ρ S1).To fun f S' => match f with | .nx ρ' => I m' ρ' S' | .ct ρ' => I m' ρ' S' | .bk ρ' => Q (.nx ρ') S' | .rt v => Q (.rt v) S') ∧ (t = false → Q (.nx ρ) S1)) :
    ∀ (m : Nat) (ρ : Env) (S : Sto), I m ρ S → (whileD (evT cf c) (exs cf wf b) m ρ S).To Q := by
  intro m
  induction m with
  | zero =>
    intro ρ S h
    obtain ⟨m', e, _⟩ := hs 0 ρ S h
    omega
  | succ m ih =>
    intro ρ S h
    obtain ⟨m', e, t, S1, et, h1, h2⟩ := hs _ ρ S h
    obtain rfl : m' = m := by omega
    rw [whileD_succ, show evT cf c = (ev2 cf c).2 from rfl, et, rthn_ok]
    cases t with
    | false =>
      rw [if_neg (by decide)]
      exact .ok (h2 rfl)
    | true =>
      rw [if_pos rfl]
      obtain ⟨f, S', ef, q⟩ := h1 rfl
      rw [ef]
      cases f with
      | nx ρ' => exact ih ρ' S' q
      | ct ρ' => exact ih ρ' S' q
      | bk ρ' => exact .ok q
      | rt v => exact .ok q
theorem to_while {cf : Nat → List D → Sto → R D} {wf : Nat} {c : E} {b r : Sts} {Q : Fl → Sto → Prop} {ρ : Env} {S : Sto} (I : Nat → Env → Sto → Prop) (h0 : I wf ρ S)
    (hs : ∀ m ρ S, I m ρ S → ∃ m', m = m' + 1 ∧ ((ev2 cf c).2 ρ S).To fun t S1 => (t = true → (exs cf wf b ρ S1).To fun f S' => match f with | .nx ρ' => I m' ρ' S' | .ct ρ' => I m' ρ' S' | .bk ρ' => (exs cf wf r ρ' S').To Q | .rt v => Q (.rt v) S') ∧ (t = false → (exs cf wf r ρ S1).To Q)) :
    (exs cf wf (.cons (.while_ c b) r) ρ S).To Q := by
  rw [xs_cons, x1_while_]
  refine RS.To.seq (Q0 := fun f S' => match f with | .nx ρ' => (exs cf wf r ρ' S').To Q | f => Q f S') (whileD_To I (fun m ρ S h => ?_) wf ρ S h0) (fun ρ S h => h) (fun f S h hf => ?_)
  · obtain ⟨m', e, h⟩ := hs m ρ S h
    refine ⟨m', e, h.mono fun t S1 ⟨h1, h2⟩ => ⟨fun e => (h1 e).mono fun f S' q => ?_, h2⟩⟩
    cases f <;> exact q
  · cases f with
    | nx ρ => exact absurd rfl (hf ρ)
    | _ => exact h

/-! ### fractions -/
def dQ (q : Rat) : D := .tup [.int q.num, .int (q.den : Int)]
/-- small enough -/
def QB (q : Rat) : Prop := q.num.natAbs ≤ 100000000 ∧ q.den ≤ 100000000
@[simp] theorem idx_Q0 {q : Rat} {S : Sto} : idxD S [dQ q, .int 0] = some (.int q.num, S) := by simp [dQ]
@[simp] theorem idx_Q1 {q : Rat} {S : Sto} : idxD S [dQ q, .int 1] = some (.int (q.den : Int), S) := by simp [dQ]
theorem dQ_0 : dQ 0 = .tup [.int 0, .int 1] := rfl
theorem dQ_1 : dQ 1 = .tup [.int 1, .int 1] := rfl
theorem sm_dQ (q : Rat) : sm (dQ q) = true := rfl
theorem pl_dQ (q : Rat) : pl (dQ q) = true := rfl
theorem dep_dQ (q : Rat) : dep (dQ q) = 1 := rfl
theorem dQ_inj {a b : Rat} (h : dQ a = dQ b) : a = b := by
  simp [dQ] at h
  exact Rat.ext h.1 (by omega)
theorem gcd_fmod (a b : Int) : Int.gcd b (a.fmod b) = Int.gcd a b := by
  have h : a.fmod b = a - b * a.fdiv b := by
    have := Int.mul_fdiv_add_fmod a b
    omega
  rw [h, Int.gcd_sub_mul_left_right, Int.gcd_comm]
theorem fmod_abs (a b : Int) (h : b ≠ 0) : (a.fmod b).natAbs < b.natAbs := by
  by_cases hb : 0 < b
  · have := fmod_rng (a := a) hb
    omega
  · have h1 : 0 < -b := by omega
    have h2 := fmod_rng (a := -a) h1
    have h3 := Int.neg_fmod_neg (-a) (-b)
    rw [Int.neg_neg, Int.neg_neg] at h3
    omega
/-- the fraction of whole numbers, as the program makes it -/
theorem frac_rat (u l : Int) (hl : l ≠ 0) : ((u : Rat) / (l : Rat)).num = u.fdiv (if l < 0 then -(Int.gcd u l : Int) else (Int.gcd u l : Int)) ∧ ((((u : Rat) / (l : Rat)).den : Nat) : Int) = l.fdiv (if l < 0 then -(Int.gcd u l : Int) else (Int.gcd u l : Int)) := by
  have hg : 0 < (Int.gcd u l : Int) := by
    have : Int.gcd u l ≠ 0 := fun e => hl (Int.gcd_eq_zero_iff.mp e).2
    omega
  have hc : Int.gcd l u = Int.gcd u l := Int.gcd_comm _ _
  have pos : ∀ x : Int, x.fdiv (Int.gcd u l : Int) = x / (Int.gcd u l : Int) := fun x => Int.fdiv_eq_ediv_of_nonneg x (by omega)
  rw [← Rat.divInt_eq_div, Rat.num_divInt, Rat.den_divInt, if_neg hl, hc]
  by_cases h : l < 0
  · rw [if_pos h, Int.sign_eq_neg_one_of_neg h]
    have e1 := Int.neg_fdiv_neg (-u) (Int.gcd u l : Int)
    have e2 := Int.neg_fdiv_neg (-l) (Int.gcd u l : Int)
    rw [Int.neg_neg] at e1 e2
    rw [e1, e2, pos, pos]
    have : (l.natAbs : Int) = -l := by omega
    refine ⟨by congr 1; omega, ?_⟩
    rw [← this]
    exact Int.natCast_ediv _ _
  · rw [if_neg h, Int.sign_eq_one_of_pos (by omega), pos, pos]
    have : (l.natAbs : Int) = l := by omega
    refine ⟨by congr 1; omega, ?_⟩
    exact (Int.natCast_ediv _ _).trans (by rw [this])
theorem frac_dQ (u l : Int) (hl : l ≠ 0) : D.tup [.int (u.fdiv (if l < 0 then -(Int.gcd u l : Int) else (Int.gcd u l : Int))), .int (l.fdiv (if l < 0 then -(Int.gcd u l : Int) else (Int.gcd u l : Int)))] = dQ ((u : Rat) / (l : Rat)) := by
  obtain ⟨h1, h2⟩ := frac_rat u l hl
  rw [← h1, ← h2]
  rfl
theorem frac_small (u l : Int) (hl : l ≠ 0) : ((u : Rat) / (l : Rat)).num.natAbs ≤ u.natAbs ∧ ((u : Rat) / (l : Rat)).den ≤ l.natAbs := by
  rw [← Rat.divInt_eq_div, Rat.num_divInt, Rat.den_divInt, if_neg hl]
  refine ⟨?_, Nat.div_le_self _ _⟩
  have h1 : (l.sign * u / (Int.gcd l u : Int)).natAbs ≤ (l.sign * u).natAbs := Int.natAbs_ediv_le_natAbs _ _
  have h2 : (l.sign * u).natAbs = u.natAbs := by
    rw [Int.natAbs_mul, Int.natAbs_sign_of_ne_zero hl, Nat.one_mul]
  omega
theorem lt_rat (a b : Rat) : decide (a.num * (b.den : Int) < b.num * (a.den : Int)) = decide (a < b) := by
  rw [Bool.eq_iff_iff]
  simp only [decide_eq_true_eq]
  exact (Rat.lt_iff a b).symm
end NT
/-! plain data with truth values -/
namespace NT
open PySem
mutual
def pq : D → Bool
  | .non => true
  | .bl _ => true
  | .int _ => true
  | .str x => PyData.strOk x
  | .tup ds => pqL ds
  | .lst ds => pqL ds
  | _ => false
def pqL : List D → Bool
  | [] => true
  | d :: ds => pq d && pqL ds
end
mutual
/-- no truth value stands where the other has a number -/
def nm : D → D → Bool
  | .bl _, .int _ => false
  | .int _, .bl _ => false
  | .tup as, .tup bs => nmL as bs
  | .lst as, .lst bs => nmL as bs
  | _, _ => true
def nmL : List D → List D → Bool
  | a :: as, b :: bs => nm a b && nmL as bs
  | _, _ => true
end
mutual
theorem py_pq : ∀ d : D, pq d = true → ∃ p, d.py0 = some p ∧ p.canLay0 = true ∧ p.depth = dep d
  | .non, _ => ⟨.none, rfl, rfl, rfl⟩
  | .int i, _ => ⟨.int i, rfl, rfl, rfl⟩
  | .str x, h => ⟨.str x, rfl, by simpa [pq, PyData.canLay0] using h, rfl⟩
  | .tup ds, h => by
    obtain ⟨ps, e, h1, h2⟩ := py_pqL ds (by simpa [pq] using h)
    exact ⟨.tuple ps, by simp [D.py0, e], by simpa [PyData.canLay0] using h1, by simp [PyData.depth, dep, h2]⟩
  | .lst ds, h => by
    obtain ⟨ps, e, h1, h2⟩ := py_pqL ds (by simpa [pq] using h)
    exact ⟨.list ps, by simp [D.py0, e], by simpa [PyData.canLay0] using h1, by simp [PyData.depth, dep, h2]⟩
  | .bl b, _ => ⟨.bool b, rfl, rfl, rfl⟩
  | .wt _, h => by cases h
  | .wl _, h => by cases h
  | .pt _, h => by cases h
  | .ref _, h => by cases h
  | .fn _, h => by cases h
  | .ty _, h => by cases h
theorem py_pqL : ∀ ds : List D, pqL ds = true → ∃ ps, D.py0L ds = some ps ∧ PyData.canLayAll0 ps = true ∧ PyData.depthAll ps = depL ds
  | [], _ => ⟨[], rfl, rfl, rfl⟩
  | d :: ds, h => by
    simp only [pqL, Bool.and_eq_true] at h
    obtain ⟨p, e1, h1, h2⟩ := py_pq d h.1
    obtain ⟨ps, e2, h3, h4⟩ := py_pqL ds h.2
    exact ⟨p :: ps, by simp [D.py0L, e1, e2], by simp [PyData.canLayAll0, h1, h3], by simp [PyData.depthAll, depL, h2, h4]⟩
end
mutual
theorem eqv_pq : ∀ (a b : D) (p q : PyData), pq a = true → pq b = true → nm a b = true → a.py0 = some p → b.py0 = some q → (PyData.eqv p q = true ↔ a = b)
  | .non, b, p, q, ha, hb, hn, e1, e2 => by
    cases e1
    cases b <;> first | (cases hb; done) | (simp [nm] at hn; done) | (simp only [D.py0, Option.some.injEq, Option.map_eq_some_iff] at e2; first | (subst e2; simp [PyData.eqv]; done) | (obtain ⟨_, _, rfl⟩ := e2; simp [PyData.eqv]; done))
  | .int i, b, p, q, ha, hb, hn, e1, e2 => by
    cases e1
    cases b <;> first | (cases hb; done) | (simp [nm] at hn; done) | (simp only [D.py0, Option.some.injEq, Option.map_eq_some_iff] at e2; first | (subst e2; simp [PyData.eqv]; done) | (obtain ⟨_, _, rfl⟩ := e2; simp [PyData.eqv]; done))
  | .str i, b, p, q, ha, hb, hn, e1, e2 => by
    cases e1
    cases b <;> first | (cases hb; done) | (simp [nm] at hn; done) | (simp only [D.py0, Option.some.injEq, Option.map_eq_some_iff] at e2; first | (subst e2; simp [PyData.eqv]; done) | (obtain ⟨_, _, rfl⟩ := e2; simp [PyData.eqv]; done))
  | .tup as, b, p, q, ha, hb, hn, e1, e2 => by
    simp only [D.py0, Option.map_eq_some_iff] at e1
    obtain ⟨ps, e1, rfl⟩ := e1
    cases b <;> first
      | (cases hb; done)
      | (rename_i bs
         simp only [D.py0, Option.map_eq_some_iff] at e2
         obtain ⟨qs, e2, rfl⟩ := e2
         have := eqv_pqL as bs ps qs (by simpa [pq] using ha) (by simpa [pq] using hb) (by simpa [nm] using hn) e1 e2
         simp [PyData.eqv, this]; done)
      | (simp only [D.py0, Option.some.injEq, Option.map_eq_some_iff] at e2; first | (subst e2; simp [PyData.eqv]; done) | (obtain ⟨_, _, rfl⟩ := e2; simp [PyData.eqv]; done))
  | .lst as, b, p, q, ha, hb, hn, e1, e2 => by
    simp only [D.py0, Option.map_eq_some_iff] at e1
    obtain ⟨ps, e1, rfl⟩ := e1
    cases b <;> first
      | (cases hb; done)
      | (rename_i bs
         simp only [D.py0, Option.map_eq_some_iff] at e2
         obtain ⟨qs, e2, rfl⟩ := e2
         have := eqv_pqL as bs ps qs (by simpa [pq] using ha) (by simpa [pq] using hb) (by simpa [nm] using hn) e1 e2
         simp [PyData.eqv, this]; done)
      | (simp only [D.py0, Option.some.injEq, Option.map_eq_some_iff] at e2; first | (subst e2; simp [PyData.eqv]; done) | (obtain ⟨_, _, rfl⟩ := e2; simp [PyData.eqv]; done))
  | .bl i, b, p, q, ha, hb, hn, e1, e2 => by
    cases e1
    cases b <;> first | (cases hb; done) | (simp [nm] at hn; done) | (simp only [D.py0, Option.some.injEq, Option.map_eq_some_iff] at e2; first | (subst e2; simp [PyData.eqv]; done) | (obtain ⟨_, _, rfl⟩ := e2; simp [PyData.eqv]; done))
  | .wt _, _, _, _, h, _, _, _, _ => by cases h
  | .wl _, _, _, _, h, _, _, _, _ => by cases h
  | .pt _, _, _, _, h, _, _, _, _ => by cases h
  | .ref _, _, _, _, h, _, _, _, _ => by cases h
  | .fn _, _, _, _, h, _, _, _, _ => by cases h
  | .ty _, _, _, _, h, _, _, _, _ => by cases h
theorem eqv_pqL : ∀ (as bs : List D) (ps qs : List PyData), pqL as = true → pqL bs = true → nmL as bs = true → D.py0L as = some ps → D.py0L bs = some qs → (PyData.eqvAll ps qs = true ↔ as = bs)
  | [], [], ps, qs, _, _, _, e1, e2 => by cases e1; cases e2; simp [PyData.eqvAll]
  | [], b :: bs, ps, qs, _, hb, _, e1, e2 => by
    cases e1
    simp only [pqL, Bool.and_eq_true] at hb
    obtain ⟨p, q1, _, _⟩ := py_pq b hb.1
    obtain ⟨ps, q2, _, _⟩ := py_pqL bs hb.2
    simp only [D.py0L, q1, q2, Option.some.injEq] at e2
    subst e2
    simp [PyData.eqvAll]
  | a :: as, [], ps, qs, ha, _, _, e1, e2 => by
    cases e2
    simp only [pqL, Bool.and_eq_true] at ha
    obtain ⟨p, q1, _, _⟩ := py_pq a ha.1
    obtain ⟨ps, q2, _, _⟩ := py_pqL as ha.2
    simp only [D.py0L, q1, q2, Option.some.injEq] at e1
    subst e1
    simp [PyData.eqvAll]
  | a :: as, b :: bs, ps, qs, ha, hb, hn, e1, e2 => by
    simp only [pqL, nmL, Bool.and_eq_true] at ha hb hn
    obtain ⟨p, q1, _, _⟩ := py_pq a ha.1
    obtain ⟨ps, q2, _, _⟩ := py_pqL as ha.2
    simp only [D.py0L, q1, q2, Option.some.injEq] at e1
    subst e1
    obtain ⟨p', r1, _, _⟩ := py_pq b hb.1
    obtain ⟨ps', r2, _, _⟩ := py_pqL bs hb.2
    simp only [D.py0L, r1, r2, Option.some.injEq] at e2
    subst e2
    have h1 := eqv_pq a b p p' ha.1 hb.1 hn.1 q1 r1
    have h2 := eqv_pqL as bs ps ps' ha.2 hb.2 hn.2 q2 r2
    simp [PyData.eqvAll, h1, h2]
end

theorem py_of_pq {S : Sto} {d : D} (h : pq d = true) : d.py S = d.py0 := by
  cases d <;> first | rfl | cases h
section
variable {S : Sto} {a b : D}
open Classical in
theorem eqD_pq (ha : pq a = true) (hb : pq b = true) (hn : nm a b = true) (da : dep a ≤ 64) (db : dep b ≤ 64) : eqD S [a, b] = some (.bl (decide (a = b)), S) := by
  obtain ⟨p, e1, c1, d1⟩ := py_pq a ha
  obtain ⟨q', e2, c2, d2⟩ := py_pq b hb
  have h := eqv_pq a b p q' ha hb hn e1 e2
  unfold eqD
  simp only [py_of_pq ha, py_of_pq hb, e1, e2]
  rw [if_pos (by simp [SeqAt.shaped, c1, c2, d1, d2, da, db])]
  by_cases q : a = b
  · rw [h.mpr q, decide_eq_true q]
  · rw [decide_eq_false q]
    have : PyData.eqv p q' = false := by
      rw [Bool.eq_false_iff]
      exact fun z => q (h.mp z)
    rw [this]
open Classical in
theorem neD_pq (ha : pq a = true) (hb : pq b = true) (hn : nm a b = true) (da : dep a ≤ 64) (db : dep b ≤ 64) : neD S [a, b] = some (.bl (!decide (a = b)), S) := by
  obtain ⟨p, e1, c1, d1⟩ := py_pq a ha
  obtain ⟨q', e2, c2, d2⟩ := py_pq b hb
  have h := eqv_pq a b p q' ha hb hn e1 e2
  unfold neD
  simp only [py_of_pq ha, py_of_pq hb, e1, e2]
  rw [if_pos (by simp [SeqAt.shaped, c1, c2, d1, d2, da, db])]
  by_cases q : a = b
  · rw [h.mpr q, decide_eq_true q]
  · rw [decide_eq_false q]
    have : PyData.eqv p q' = false := by
      rw [Bool.eq_false_iff]
      exact fun z => q (h.mp z)
    rw [this]
end
end NT
namespace NT
open PySem
/-! ### moving things: what the motion defs compute -/
def lesR (a b : Rat) : Rat := if b < a then b else a
def graR (a b : Rat) : Rat := if a < b then b else a
def withinR (b e far : Int) : Option (Rat × Rat) :=
  if b = e then (if (if b < 0 then -b else b) ≤ far then some (0, 1) else none) else
  let f : Rat := ((0 - far - b : Int) : Rat) / ((e - b : Int) : Rat)
  let l : Rat := ((far - b : Int) : Rat) / ((e - b : Int) : Rat)
  let f' := if l < f then l else f
  let l' := if l < f then f else l
  if lesR l' 1 < graR f' 0 then none else some (graR f' 0, lesR l' 1)
abbrev Way := (Int × Int) × (Int × Int)
def dW (w : Way) : D := .tup [dP w.1, dP w.2]
def meetR (found : Rat × Rat) (t : Rat × Rat) : Rat × Rat := (graR found.1 t.1, lesR found.2 t.2)
def whenR (w o : Way) (far : Int) : Option (Rat × Rat) := match withinR (w.1.1 - o.1.1) (w.2.1 - o.2.1) far with
  | none => none
  | some t => match withinR (w.1.2 - o.1.2) (w.2.2 - o.2.2) far with
    | none => none
    | some t' => if (meetR (meetR (0, 1) t) t').2 < (meetR (meetR (0, 1) t) t').1 then none else some (meetR (meetR (0, 1) t) t')
def dI (t : Rat × Rat) : D := .tup [dQ t.1, dQ t.2]
def dO : Option (Rat × Rat) → D
  | none => .non
  | some t => dI t
def leftR (kept : Option (Rat × Rat)) (time : Rat) : List (Rat × Bool) := match kept with
  | none => [(time, false)]
  | some k => if k.2 < time then [(time, false)] else if k.2 = 1 then [] else [(k.2, false)]
def chR (known : Bool) (w o : Way) (far slack : Int) : List (Rat × Bool) :=
  if known then leftR (whenR w o (far + slack)) 0 else match whenR w o far with
  | none => []
  | some t => (t.1, true) :: leftR (whenR w o (far + slack)) t.1
def dE (e : Rat × Bool) : D := .tup [dQ e.1, .bl e.2]
def dEs (es : List (Rat × Bool)) : D := .tup (es.map dE)
theorem QB_01 : QB 0 ∧ QB 1 := by
  constructor <;> exact ⟨by decide, by decide⟩
theorem QB_les {a b : Rat} (ha : QB a) (hb : QB b) : QB (lesR a b) := by unfold lesR; split <;> assumption
theorem QB_gra {a b : Rat} (ha : QB a) (hb : QB b) : QB (graR a b) := by unfold graR; split <;> assumption
structure Sm (x : Int) : Prop where
  lo : -1000000 ≤ x
  hi : x ≤ 1000000
theorem QB_frac {u l : Int} (hl : l ≠ 0) (hu : -4000000 ≤ u ∧ u ≤ 4000000) (h : -4000000 ≤ l ∧ l ≤ 4000000) : QB ((u : Rat) / (l : Rat)) := by
  obtain ⟨h1, h2⟩ := frac_small u l hl
  refine ⟨?_, ?_⟩ <;> omega
theorem QB_within {b e far : Int} (hb : Sm b) (he : Sm e) (hf : Sm far) {t : Rat × Rat} (h : withinR b e far = some t) : QB t.1 ∧ QB t.2 := by
  obtain ⟨b1, b2⟩ := hb
  obtain ⟨e1, e2⟩ := he
  obtain ⟨f1, f2⟩ := hf
  unfold withinR at h
  by_cases q : b = e
  · rw [if_pos q] at h
    generalize (if b < 0 then -b else b) = a at h
    by_cases c : a ≤ far
    · rw [if_pos c] at h
      cases h
      exact QB_01
    · rw [if_neg c] at h
      cases h
  · rw [if_neg q] at h
    have k1 : QB (((0 - far - b : Int) : Rat) / ((e - b : Int) : Rat)) := QB_frac (by omega) (by omega) (by omega)
    have k2 : QB (((far - b : Int) : Rat) / ((e - b : Int) : Rat)) := QB_frac (by omega) (by omega) (by omega)
    dsimp only at h
    generalize (((0 - far - b : Int) : Rat) / ((e - b : Int) : Rat)) = f at h k1
    generalize (((far - b : Int) : Rat) / ((e - b : Int) : Rat)) = l at h k2
    have k3 : QB (if l < f then l else f) := by split <;> assumption
    have k4 : QB (if l < f then f else l) := by split <;> assumption
    generalize (if l < f then l else f) = f' at h k3
    generalize (if l < f then f else l) = l' at h k4
    by_cases c : lesR l' 1 < graR f' 0
    · rw [if_pos c] at h
      cases h
    · rw [if_neg c] at h
      cases h
      exact ⟨QB_gra k3 QB_01.1, QB_les k4 QB_01.2⟩
theorem QB_when {w o : Way} {far : Int} (h1 : Sm (w.1.1 - o.1.1)) (h2 : Sm (w.2.1 - o.2.1)) (h3 : Sm (w.1.2 - o.1.2)) (h4 : Sm (w.2.2 - o.2.2)) (hf : Sm far) {t : Rat × Rat} (h : whenR w o far = some t) : QB t.1 ∧ QB t.2 := by
  unfold whenR at h
  split at h
  · cases h
  · rename_i t0 e0
    split at h
    · cases h
    · rename_i t1 e1
      have q0 := QB_within h1 h2 hf e0
      have q1 := QB_within h3 h4 hf e1
      split at h
      · cases h
      · cases h
        exact ⟨QB_gra (QB_gra QB_01.1 q0.1) q1.1, QB_les (QB_les QB_01.2 q0.2) q1.2⟩
@[simp] theorem idx_I0 {t : Rat × Rat} {S : Sto} : idxD S [dI t, .int 0] = some (dQ t.1, S) := by simp [dI]
@[simp] theorem idx_I1 {t : Rat × Rat} {S : Sto} : idxD S [dI t, .int 1] = some (dQ t.2, S) := by simp [dI]
@[simp] theorem idx_W0 {w : Way} {S : Sto} : idxD S [dW w, .int 0] = some (dP w.1, S) := by simp [dW]
@[simp] theorem idx_W1 {w : Way} {S : Sto} : idxD S [dW w, .int 1] = some (dP w.2, S) := by simp [dW]
@[simp] theorem isN_I {t : Rat × Rat} : D.isN (dI t) = false := rfl
@[simp] theorem dO_none : dO none = .non := rfl
@[simp] theorem dO_some {t : Rat × Rat} : dO (some t) = dI t := rfl
open Classical in
theorem ne_dQ {S : Sto} {a b : Rat} : neD S [dQ a, dQ b] = some (.bl (!decide (a = b)), S) := by
  rw [neD_pl (pl_dQ a) (pl_dQ b) (by rw [dep_dQ]; omega) (by rw [dep_dQ]; omega)]
  have : (dQ a = dQ b) = (a = b) := propext ⟨dQ_inj, fun h => by rw [h]⟩
  simp only [this]
end NT
/-! what the motion defs compute: times at which two things are near -/
namespace NT
open PySem
def nearAt (b e far : Int) (s : Rat) : Prop := -(far : Rat) ≤ (b : Rat) + ((e : Rat) - (b : Rat)) * s ∧ (b : Rat) + ((e : Rat) - (b : Rat)) * s ≤ (far : Rat)
/-- an interval is just the times of a kind -/
def Span (P : Rat → Prop) (t : Option (Rat × Rat)) : Prop := match t with
  | none => ∀ s, 0 ≤ s → s ≤ 1 → ¬ P s
  | some t => 0 ≤ t.1 ∧ t.1 ≤ t.2 ∧ t.2 ≤ 1 ∧ ∀ s, (0 ≤ s ∧ s ≤ 1 ∧ P s) ↔ (t.1 ≤ s ∧ s ≤ t.2)
theorem les_le (a b s : Rat) : s ≤ lesR a b ↔ s ≤ a ∧ s ≤ b := by unfold lesR; grind
theorem gra_le (a b s : Rat) : graR a b ≤ s ↔ a ≤ s ∧ b ≤ s := by unfold graR; grind
theorem div_le_r {a b c : Rat} (h : 0 < b) : a / b ≤ c ↔ a ≤ c * b := by
  have := Rat.lt_div_iff (a := c) (b := a) (c := b) h
  grind
theorem le_div_r {a b c : Rat} (h : 0 < c) : a ≤ b / c ↔ a * c ≤ b := by
  have := Rat.div_lt_iff (a := b) (b := c) (c := a) h
  grind
theorem within_span (b e far : Int) (hf : 0 ≤ far) : Span (nearAt b e far) (withinR b e far) := by
  have hf' : (0 : Rat) ≤ (far : Rat) := by exact_mod_cast hf
  unfold withinR
  by_cases q : b = e
  · rw [if_pos q]
    subst q
    have key : ∀ s, nearAt b b far s ↔ (if b < 0 then -b else b) ≤ far := by
      intro s
      have e1 : (b : Rat) + ((b : Rat) - (b : Rat)) * s = (b : Rat) := by grind
      unfold nearAt
      rw [e1]
      have c1 : -(far : Rat) ≤ (b : Rat) ↔ -far ≤ b := by
        rw [← Rat.intCast_neg, Rat.intCast_le_intCast]
      have c2 : (b : Rat) ≤ (far : Rat) ↔ b ≤ far := Rat.intCast_le_intCast
      rw [c1, c2]
      split <;> omega
    by_cases c : (if b < 0 then -b else b) ≤ far
    · rw [if_pos c]
      refine ⟨by decide, by decide, by decide, fun s => ?_⟩
      rw [key s]
      exact ⟨fun h => ⟨h.1, h.2.1⟩, fun h => ⟨h.1, h.2, c⟩⟩
    · rw [if_neg c]
      intro s _ _ h
      exact c ((key s).mp h)
  · rw [if_neg q]
    dsimp only
    have hd : ((e - b : Int) : Rat) = (e : Rat) - (b : Rat) := Rat.intCast_sub e b
    have h1 : ((0 - far - b : Int) : Rat) = -(far : Rat) - (b : Rat) := by
      rw [Rat.intCast_sub, Rat.intCast_sub]
      grind
    have h2 : ((far - b : Int) : Rat) = (far : Rat) - (b : Rat) := Rat.intCast_sub far b
    rw [hd, h1, h2]
    have hne : (e : Rat) - (b : Rat) ≠ 0 := by
      intro h
      apply q
      have : (b : Rat) = (e : Rat) := by grind
      exact (Rat.intCast_inj.mp this)
    obtain ⟨d, hdd⟩ : ∃ d : Rat, d = (e : Rat) - (b : Rat) := ⟨_, rfl⟩
    unfold nearAt
    rw [← hdd] at hne ⊢
    obtain ⟨f, hfd⟩ : ∃ f : Rat, f = (-(far : Rat) - (b : Rat)) / d := ⟨_, rfl⟩
    obtain ⟨l, hld⟩ : ∃ l : Rat, l = ((far : Rat) - (b : Rat)) / d := ⟨_, rfl⟩
    rw [← hfd, ← hld]
    have key : ∀ s, (-(far : Rat) ≤ (b : Rat) + d * s ∧ (b : Rat) + d * s ≤ (far : Rat)) ↔ ((if l < f then l else f) ≤ s ∧ s ≤ (if l < f then f else l)) := by
      intro s
      by_cases pos : 0 < d
      · have k1 : f ≤ s ↔ -(far : Rat) - (b : Rat) ≤ s * d := by rw [hfd]; exact div_le_r pos
        have k2 : s ≤ l ↔ s * d ≤ (far : Rat) - (b : Rat) := by rw [hld]; exact le_div_r pos
        have k3 : f ≤ l := by
          rw [hfd, div_le_r pos]
          have : l * d = (far : Rat) - (b : Rat) := by rw [hld]; exact Rat.div_mul_cancel hne
          grind
        have k4 : ¬ l < f := by grind
        rw [if_neg k4, if_neg k4, k1, k2]
        grind
      · have neg : 0 < -d := by grind
        have e1 : f = ((far : Rat) + (b : Rat)) / (-d) := by
          have h1 : f * d = -(far : Rat) - (b : Rat) := by rw [hfd]; exact Rat.div_mul_cancel hne
          have h2 : (far : Rat) + (b : Rat) = f * (-d) := by grind
          rw [h2, Rat.mul_div_cancel (by grind)]
        have e2 : l = ((b : Rat) - (far : Rat)) / (-d) := by
          have h1 : l * d = (far : Rat) - (b : Rat) := by rw [hld]; exact Rat.div_mul_cancel hne
          have h2 : (b : Rat) - (far : Rat) = l * (-d) := by grind
          rw [h2, Rat.mul_div_cancel (by grind)]
        have k1 : s ≤ f ↔ s * (-d) ≤ (far : Rat) + (b : Rat) := by rw [e1]; exact le_div_r neg
        have k2 : l ≤ s ↔ (b : Rat) - (far : Rat) ≤ s * (-d) := by rw [e2]; exact div_le_r neg
        have k3 : l ≤ f := by
          rw [e2, div_le_r neg]
          have : f * (-d) = (far : Rat) + (b : Rat) := by rw [e1]; exact Rat.div_mul_cancel (by grind)
          grind
        by_cases k4 : l < f
        · rw [if_pos k4, if_pos k4, k1, k2]
          grind
        · have : l = f := by grind
          rw [if_neg k4, if_neg k4]
          rw [show (f ≤ s ∧ s ≤ l) ↔ (l ≤ s ∧ s ≤ f) by rw [this], k1, k2]
          grind
    generalize (if l < f then l else f) = f' at key ⊢
    generalize (if l < f then f else l) = l' at key ⊢
    have key2 : ∀ s, (0 ≤ s ∧ s ≤ 1 ∧ (-(far : Rat) ≤ (b : Rat) + d * s ∧ (b : Rat) + d * s ≤ (far : Rat))) ↔ (graR f' 0 ≤ s ∧ s ≤ lesR l' 1) := by
      intro s
      rw [key s, gra_le, les_le]
      grind
    by_cases c : lesR l' 1 < graR f' 0
    · rw [if_pos c]
      intro s s0 s1 h
      have := (key2 s).mp ⟨s0, s1, h⟩
      grind
    · rw [if_neg c]
      refine ⟨((gra_le f' 0 (graR f' 0)).mp (by grind)).2, by grind, ((les_le l' 1 (lesR l' 1)).mp (by grind)).2, key2⟩
def nearW (w o : Way) (far : Int) (s : Rat) : Prop := nearAt (w.1.1 - o.1.1) (w.2.1 - o.2.1) far s ∧ nearAt (w.1.2 - o.1.2) (w.2.2 - o.2.2) far s
theorem when_span (w o : Way) (far : Int) (hf : 0 ≤ far) : Span (nearW w o far) (whenR w o far) := by
  have h1 := within_span (w.1.1 - o.1.1) (w.2.1 - o.2.1) far hf
  have h2 := within_span (w.1.2 - o.1.2) (w.2.2 - o.2.2) far hf
  unfold whenR
  cases e1 : withinR (w.1.1 - o.1.1) (w.2.1 - o.2.1) far with
  | none =>
    rw [e1] at h1
    exact fun s s0 s1 h => h1 s s0 s1 h.1
  | some t =>
    rw [e1] at h1
    cases e2 : withinR (w.1.2 - o.1.2) (w.2.2 - o.2.2) far with
    | none =>
      rw [e2] at h2
      exact fun s s0 s1 h => h2 s s0 s1 h.2
    | some t' =>
      rw [e2] at h2
      obtain ⟨a0, a1, a2, a3⟩ := h1
      obtain ⟨b0, b1, b2, b3⟩ := h2
      have key : ∀ s, (0 ≤ s ∧ s ≤ 1 ∧ nearW w o far s) ↔ (graR (graR 0 t.1) t'.1 ≤ s ∧ s ≤ lesR (lesR 1 t.2) t'.2) := by
        intro s
        rw [gra_le, gra_le, les_le, les_le]
        have := a3 s
        have := b3 s
        unfold nearW
        grind
      show Span (nearW w o far) (if (meetR (meetR (0, 1) t) t').2 < (meetR (meetR (0, 1) t) t').1 then none else some (meetR (meetR (0, 1) t) t'))
      have m1 : (meetR (meetR (0, 1) t) t').1 = graR (graR 0 t.1) t'.1 := rfl
      have m2 : (meetR (meetR (0, 1) t) t').2 = lesR (lesR 1 t.2) t'.2 := rfl
      generalize meetR (meetR (0, 1) t) t' = m at m1 m2 ⊢
      rw [← m1, ← m2] at key
      by_cases c : m.2 < m.1
      · rw [if_pos c]
        intro s s0 s1 h
        have := (key s).mp ⟨s0, s1, h⟩
        grind
      · rw [if_neg c]
        have k1 := (gra_le (graR 0 t.1) t'.1 m.1).mp (by grind)
        have k2 := (gra_le 0 t.1 m.1).mp k1.1
        have k3 := (les_le (lesR 1 t.2) t'.2 m.2).mp (by grind)
        have k4 := (les_le 1 t.2 m.2).mp k3.1
        exact ⟨k2.1, by grind, k4.1, key⟩
theorem span_unique {P Q : Rat → Prop} {a b : Option (Rat × Rat)} (h : ∀ s, P s ↔ Q s) (ha : Span P a) (hb : Span Q b) : a = b := by
  cases a with
  | none =>
    cases b with
    | none => rfl
    | some t =>
      obtain ⟨b0, b1, b2, b3⟩ := hb
      have := (b3 t.1).mpr ⟨by grind, b1⟩
      exact absurd ((h _).mpr this.2.2) (ha _ this.1 this.2.1)
  | some t =>
    obtain ⟨a0, a1, a2, a3⟩ := ha
    cases b with
    | none =>
      have := (a3 t.1).mpr ⟨by grind, a1⟩
      exact absurd ((h _).mp this.2.2) (hb _ this.1 this.2.1)
    | some u =>
      obtain ⟨b0, b1, b2, b3⟩ := hb
      have key : ∀ s, (t.1 ≤ s ∧ s ≤ t.2) ↔ (u.1 ≤ s ∧ s ≤ u.2) := fun s => by
        rw [← a3 s, ← b3 s, h s]
      have k1 := (key t.1).mp ⟨by grind, a1⟩
      have k2 := (key u.1).mpr ⟨by grind, b1⟩
      have k3 := (key t.2).mp ⟨a1, by grind⟩
      have k4 := (key u.2).mpr ⟨b1, by grind⟩
      have e1 : t.1 = u.1 := by grind
      have e2 : t.2 = u.2 := by grind
      exact congrArg some (Prod.ext e1 e2)
theorem nearAt_neg (b e far : Int) (s : Rat) : nearAt (-b) (-e) far s ↔ nearAt b e far s := by
  unfold nearAt
  rw [Rat.intCast_neg, Rat.intCast_neg]
  grind
theorem when_comm (w o : Way) (far : Int) (hf : 0 ≤ far) : whenR o w far = whenR w o far := by
  refine span_unique (fun s => ?_) (when_span o w far hf) (when_span w o far hf)
  unfold nearW
  rw [← nearAt_neg (w.1.1 - o.1.1), ← nearAt_neg (w.1.2 - o.1.2), Int.neg_sub, Int.neg_sub, Int.neg_sub, Int.neg_sub]
theorem nearAt_mono {b e far far' : Int} (h : far ≤ far') {s : Rat} (q : nearAt b e far s) : nearAt b e far' s := by
  have : (far : Rat) ≤ (far' : Rat) := Rat.intCast_le_intCast.mpr h
  unfold nearAt at q ⊢
  grind
theorem nearW_mono {w o : Way} {far far' : Int} (h : far ≤ far') {s : Rat} (q : nearW w o far s) : nearW w o far' s := ⟨nearAt_mono h q.1, nearAt_mono h q.2⟩
/-- farther sees longer -/
theorem when_mono {w o : Way} {far far' : Int} (hf : 0 ≤ far) (h : far ≤ far') {t : Rat × Rat} (ht : whenR w o far = some t) : ∃ k, whenR w o far' = some k ∧ k.1 ≤ t.1 ∧ t.2 ≤ k.2 := by
  have h1 := when_span w o far hf
  have h2 := when_span w o far' (by omega)
  rw [ht] at h1
  obtain ⟨a0, a1, a2, a3⟩ := h1
  have p1 := (a3 t.1).mpr ⟨by grind, a1⟩
  have p2 := (a3 t.2).mpr ⟨a1, by grind⟩
  cases e : whenR w o far' with
  | none =>
    rw [e] at h2
    exact absurd (nearW_mono h p1.2.2) (h2 _ p1.1 p1.2.1)
  | some k =>
    rw [e] at h2
    obtain ⟨b0, b1, b2, b3⟩ := h2
    have q1 := (b3 t.1).mp ⟨p1.1, p1.2.1, nearW_mono h p1.2.2⟩
    have q2 := (b3 t.2).mp ⟨p2.1, p2.2.1, nearW_mono h p2.2.2⟩
    exact ⟨k, rfl, q1.1, q2.2⟩
theorem when_rng {w o : Way} {far : Int} (hf : 0 ≤ far) {t : Rat × Rat} (ht : whenR w o far = some t) : 0 ≤ t.1 ∧ t.1 ≤ t.2 ∧ t.2 ≤ 1 := by
  have h1 := when_span w o far hf
  rw [ht] at h1
  exact ⟨h1.1, h1.2.1, h1.2.2.1⟩
theorem nearAt_1 (b e far : Int) : nearAt b e far 1 ↔ -far ≤ e ∧ e ≤ far := by
  unfold nearAt
  have e1 : (b : Rat) + ((e : Rat) - (b : Rat)) * 1 = (e : Rat) := by grind
  rw [e1, ← Rat.intCast_neg, Rat.intCast_le_intCast, Rat.intCast_le_intCast]
theorem nearW_1 (w o : Way) (far : Int) : nearW w o far 1 ↔ cheb w.2 o.2 ≤ far := by
  unfold nearW cheb
  rw [nearAt_1, nearAt_1]
  omega
/-- near at the end -/
theorem when_end {w o : Way} {far : Int} (hf : 0 ≤ far) : (∃ k, whenR w o far = some k ∧ k.2 = 1) ↔ cheb w.2 o.2 ≤ far := by
  have h := when_span w o far hf
  rw [← nearW_1]
  constructor
  · rintro ⟨k, e, h1⟩
    rw [e] at h
    obtain ⟨a0, a1, a2, a3⟩ := h
    exact ((a3 1).mpr ⟨by grind, by grind⟩).2.2
  · intro q
    cases e : whenR w o far with
    | none =>
      rw [e] at h
      exact absurd q (h 1 (by decide) (by decide))
    | some k =>
      rw [e] at h
      obtain ⟨a0, a1, a2, a3⟩ := h
      have := (a3 1).mp ⟨by decide, by decide, q⟩
      exact ⟨k, rfl, by grind⟩
/-- it does not leave just when it is near at the end -/
theorem left_nil {w o : Way} {far : Int} (hf : 0 ≤ far) {time : Rat} (ht : time ≤ 1) : leftR (whenR w o far) time = [] ↔ cheb w.2 o.2 ≤ far := by
  rw [← when_end hf]
  unfold leftR
  cases e : whenR w o far with
  | none => simp
  | some k =>
    have := when_rng hf e
    by_cases c : k.2 < time
    · simp only [if_pos c]
      constructor
      · intro h; cases h
      · rintro ⟨k', e', h1⟩
        cases e'
        grind
    · simp only [if_neg c]
      by_cases c1 : k.2 = 1
      · simp [c1]
      · simp [c1]
theorem left_cases (kept : Option (Rat × Rat)) (time : Rat) : leftR kept time = [] ∨ ∃ x, leftR kept time = [(x, false)] := by
  unfold leftR
  cases kept with
  | none => exact .inr ⟨_, rfl⟩
  | some k =>
    dsimp only
    by_cases c : k.2 < time
    · rw [if_pos c]; exact .inr ⟨_, rfl⟩
    · rw [if_neg c]
      by_cases c1 : k.2 = 1
      · rw [if_pos c1]; exact .inl rfl
      · rw [if_neg c1]; exact .inr ⟨_, rfl⟩
end NT
/-! times turned about -/
namespace NT
open PySem L2
def backR : Option (Rat × Rat) → Option (Rat × Rat)
  | none => none
  | some t => some (1 - t.2, 1 - t.1)
theorem span_back {P Q : Rat → Prop} {a : Option (Rat × Rat)} (h : Span P a) (e : ∀ s, Q s ↔ P (1 - s)) : Span Q (backR a) := by
  cases a with
  | none =>
    intro s h0 h1 q
    exact h (1 - s) (by grind) (by grind) ((e s).mp q)
  | some t =>
    obtain ⟨a0, a1, a2, a3⟩ := h
    refine ⟨by show 0 ≤ 1 - t.2; grind, by show 1 - t.2 ≤ 1 - t.1; grind, by show 1 - t.1 ≤ 1; grind, fun s => ?_⟩
    show (0 ≤ s ∧ s ≤ 1 ∧ Q s) ↔ (1 - t.2 ≤ s ∧ s ≤ 1 - t.1)
    rw [e s]
    have := a3 (1 - s)
    constructor
    · intro ⟨h0, h1, q⟩
      have := this.mp ⟨by grind, by grind, q⟩
      exact ⟨by grind, by grind⟩
    · intro ⟨h0, h1⟩
      have := this.mpr ⟨by grind, by grind⟩
      exact ⟨by grind, by grind, this.2.2⟩
theorem span_at {P : Rat → Prop} {a : Option (Rat × Rat)} (h : Span P a) {s : Rat} (h0 : 0 ≤ s) (h1 : s ≤ 1) (hp : P s) : ∃ k, a = some k ∧ k.1 ≤ s ∧ s ≤ k.2 := by
  cases a with
  | none => exact absurd hp (h s h0 h1)
  | some k => exact ⟨k, rfl, (h.2.2.2 s).mp ⟨h0, h1, hp⟩⟩
theorem span_first {P : Rat → Prop} {t : Rat × Rat} (h : Span P (some t)) : t.1 = 0 ↔ P 0 := by
  obtain ⟨a0, a1, a2, a3⟩ := h
  constructor
  · intro e
    exact ((a3 0).mpr ⟨by grind, by grind⟩).2.2
  · intro p
    have := (a3 0).mp ⟨by grind, by grind, p⟩
    grind
theorem span_last {P : Rat → Prop} {t : Rat × Rat} (h : Span P (some t)) : t.2 = 1 ↔ P 1 := by
  obtain ⟨a0, a1, a2, a3⟩ := h
  constructor
  · intro e
    exact ((a3 1).mpr ⟨by grind, by grind⟩).2.2
  · intro p
    have := (a3 1).mp ⟨by grind, by grind, p⟩
    grind
theorem span_mono {P Q : Rat → Prop} {t : Rat × Rat} {b : Option (Rat × Rat)} (h : Span P (some t)) (h' : Span Q b) (k : ∀ s, P s → Q s) : ∃ u, b = some u ∧ u.1 ≤ t.1 ∧ t.2 ≤ u.2 := by
  obtain ⟨a0, a1, a2, a3⟩ := h
  have p1 := (a3 t.1).mpr ⟨by grind, by grind⟩
  have p2 := (a3 t.2).mpr ⟨by grind, by grind⟩
  obtain ⟨u, e, u1, u2⟩ := span_at h' p1.1 p1.2.1 (k _ p1.2.2)
  obtain ⟨u', e', v1, v2⟩ := span_at h' p2.1 p2.2.1 (k _ p2.2.2)
  rw [e] at e'
  cases e'
  exact ⟨u, e, u1, v2⟩
theorem nearAt_back (b e far : Int) (s : Rat) : nearAt e b far s ↔ nearAt b e far (1 - s) := by
  unfold nearAt
  have : (b : Rat) + ((e : Rat) - (b : Rat)) * (1 - s) = (e : Rat) + ((b : Rat) - (e : Rat)) * s := by grind
  rw [this]
theorem nearAt_0 (b e far : Int) : nearAt b e far 0 ↔ -far ≤ b ∧ b ≤ far := by
  unfold nearAt
  have e1 : (b : Rat) + ((e : Rat) - (b : Rat)) * 0 = (b : Rat) := by grind
  rw [e1, ← Rat.intCast_neg, Rat.intCast_le_intCast, Rat.intCast_le_intCast]
theorem nearW_0 (w o : Way) (far : Int) : nearW w o far 0 ↔ cheb w.1 o.1 ≤ far := by
  unfold nearW cheb
  rw [nearAt_0, nearAt_0]
  omega
theorem nearW_back (w o : Way) (far : Int) (s : Rat) : nearW (w.2, w.1) (o.2, o.1) far s ↔ nearW w o far (1 - s) := by
  unfold nearW
  rw [nearAt_back, nearAt_back (b := w.1.2 - o.1.2)]
theorem nearAt_mul {k : Int} (hk : 0 < k) (b e far : Int) (s : Rat) : nearAt (k * b) (k * e) (k * far) s ↔ nearAt b e far s := by
  unfold nearAt
  have hk' : (0 : Rat) < (k : Rat) := by exact_mod_cast hk
  simp only [Rat.intCast_mul]
  generalize (b : Rat) = x
  generalize (e : Rat) = y
  generalize (far : Rat) = f
  generalize (k : Rat) = k at hk'
  have e1 : k * x + (k * y - k * x) * s = k * (x + (y - x) * s) := by grind
  rw [e1]
  generalize x + (y - x) * s = v
  constructor
  · intro ⟨h1, h2⟩
    have l1 : k * (-f) ≤ k * v := by grind
    exact ⟨Rat.le_of_mul_le_mul_left l1 hk', Rat.le_of_mul_le_mul_left h2 hk'⟩
  · intro ⟨h1, h2⟩
    have l1 := Rat.mul_le_mul_of_nonneg_left h1 (Rat.le_of_lt hk')
    have l2 := Rat.mul_le_mul_of_nonneg_left h2 (Rat.le_of_lt hk')
    exact ⟨by grind, l2⟩
theorem within_neg (b e far : Int) (hf : 0 ≤ far) : withinR (-b) (-e) far = withinR b e far := span_unique (fun s => nearAt_neg b e far s) (within_span _ _ far hf) (within_span _ _ far hf)
theorem within_back (b e far : Int) (hf : 0 ≤ far) : withinR e b far = backR (withinR b e far) := span_unique (fun s => Iff.rfl) (within_span _ _ far hf) (span_back (within_span b e far hf) fun s => nearAt_back b e far s)
theorem within_mul {k : Int} (hk : 0 < k) (b e far : Int) (hf : 0 ≤ far) : withinR (k * b) (k * e) (k * far) = withinR b e far := span_unique (fun s => nearAt_mul hk b e far s) (within_span _ _ _ (Int.mul_nonneg (by omega) hf)) (within_span _ _ far hf)
theorem within_none (b e far : Int) (hf : 0 ≤ far) : withinR b e far = none ↔ (far < b ∧ far < e) ∨ (b < -far ∧ e < -far) := by
  have sp := within_span b e far hf
  constructor
  · intro e0
    rw [e0] at sp
    have n0 := sp 0 (by grind) (by grind)
    have n1 := sp 1 (by grind) (by grind)
    rw [nearAt_0] at n0
    rw [nearAt_1] at n1
    have mid : ∀ x y : Int, 0 < x → y < 0 → ¬ (b = x ∧ e = y) ∧ ¬ (b = y ∧ e = x) := by
      intro x y hx hy
      have hx' : (0 : Rat) < (x : Rat) := by exact_mod_cast hx
      have hy' : (y : Rat) < 0 := by exact_mod_cast hy
      have hf' : (0 : Rat) ≤ (far : Rat) := by exact_mod_cast hf
      have go : ∀ p q : Rat, p ≠ q → (0 ≤ p ∧ q ≤ 0 ∨ p ≤ 0 ∧ 0 ≤ q) → ∃ s : Rat, 0 ≤ s ∧ s ≤ 1 ∧ p + (q - p) * s = 0 := by
        intro p q hne hs
        refine ⟨p / (p - q), ?_, ?_, ?_⟩
        · rcases hs with ⟨h1, h2⟩ | ⟨h1, h2⟩
          · exact (le_div_r (by grind)).mpr (by grind)
          · have e1 : p / (p - q) = (-p) / (q - p) := by
              have : p - q ≠ 0 := by grind
              have : q - p ≠ 0 := by grind
              grind
            rw [e1]
            exact (le_div_r (by grind)).mpr (by grind)
        · rcases hs with ⟨h1, h2⟩ | ⟨h1, h2⟩
          · exact (div_le_r (by grind)).mpr (by grind)
          · have e1 : p / (p - q) = (-p) / (q - p) := by
              have : p - q ≠ 0 := by grind
              have : q - p ≠ 0 := by grind
              grind
            rw [e1]
            exact (div_le_r (by grind)).mpr (by grind)
        · have : p - q ≠ 0 := by grind
          grind
      constructor
      · rintro ⟨rfl, rfl⟩
        obtain ⟨s, s0, s1, sz⟩ := go b e (by grind) (.inl ⟨by grind, by grind⟩)
        exact sp s s0 s1 (by unfold nearAt; rw [sz]; exact ⟨by grind, hf'⟩)
      · rintro ⟨rfl, rfl⟩
        obtain ⟨s, s0, s1, sz⟩ := go b e (by grind) (.inr ⟨by grind, by grind⟩)
        exact sp s s0 s1 (by unfold nearAt; rw [sz]; exact ⟨by grind, hf'⟩)
    by_cases h1 : 0 < b ∧ e < 0
    · exact absurd ⟨rfl, rfl⟩ (mid b e h1.1 h1.2).1
    · by_cases h2 : b < 0 ∧ 0 < e
      · exact absurd ⟨rfl, rfl⟩ (mid e b h2.2 h2.1).2
      · omega
  · intro h
    cases hw : withinR b e far with
    | none => rfl
    | some t =>
      rw [hw] at sp
      obtain ⟨a0, a1, a2, a3⟩ := sp
      have p := ((a3 t.1).mpr ⟨by grind, by grind⟩)
      exfalso
      obtain ⟨s0, s1, q1, q2⟩ := p
      have cb : ∀ x y : Int, x < y → (x : Rat) < (y : Rat) := fun x y h => by exact_mod_cast h
      have hn : ((-far : Int) : Rat) = -(far : Rat) := Rat.intCast_neg _
      have e1 : (b : Rat) + ((e : Rat) - (b : Rat)) * t.1 = (b : Rat) * (1 - t.1) + (e : Rat) * t.1 := by grind
      rw [e1] at q1 q2
      have hs : 0 ≤ 1 - t.1 := by grind
      rcases h with ⟨h1, h2⟩ | ⟨h1, h2⟩
      · have b1 := cb _ _ h1
        have b2 := cb _ _ h2
        have m1 := Rat.mul_le_mul_of_nonneg_right (Rat.le_of_lt b1) hs
        have m2 := Rat.mul_le_mul_of_nonneg_right (Rat.le_of_lt b2) s0
        by_cases hz : t.1 = 0
        · rw [hz] at q2
          grind
        · have hp : 0 < t.1 := by grind
          have m3 := Rat.mul_lt_mul_of_pos_right b2 hp
          grind
      · have b1 := cb _ _ h1
        have b2 := cb _ _ h2
        rw [hn] at b1 b2
        have m1 := Rat.mul_le_mul_of_nonneg_right (Rat.le_of_lt b1) hs
        have m2 := Rat.mul_le_mul_of_nonneg_right (Rat.le_of_lt b2) s0
        by_cases hz : t.1 = 0
        · rw [hz] at q1
          grind
        · have hp : 0 < t.1 := by grind
          have m3 := Rat.mul_lt_mul_of_pos_right b2 hp
          grind
/-- along one side -/
theorem nearAt_same (p far : Int) (hf : 0 ≤ far) (s : Rat) : nearAt (p - p) (p - p) far s := by
  unfold nearAt
  have : ((p - p : Int) : Rat) + (((p - p : Int) : Rat) - ((p - p : Int) : Rat)) * s = 0 := by
    have : p - p = 0 := by omega
    rw [this]
    grind
  rw [this]
  have hf' : (0 : Rat) ≤ (far : Rat) := by exact_mod_cast hf
  exact ⟨by grind, hf'⟩
end NT
/-! places at times, how great times' lowers are -/
namespace NT
open PySem L2
theorem les_pred {P : Rat → Prop} {a b : Rat} (ha : P a) (hb : P b) : P (lesR a b) := by unfold lesR; split <;> assumption
theorem gra_pred {P : Rat → Prop} {a b : Rat} (ha : P a) (hb : P b) : P (graR a b) := by unfold graR; split <;> assumption
theorem within_pred {P : Rat → Prop} (p0 : P 0) (p1 : P 1) {b e far : Int} (hf : ∀ u : Int, b ≠ e → P ((u : Rat) / ((e - b : Int) : Rat))) {t : Rat × Rat} (h : withinR b e far = some t) : P t.1 ∧ P t.2 := by
  unfold withinR at h
  by_cases q : b = e
  · rw [if_pos q] at h
    generalize (if b < 0 then -b else b) = a at h
    by_cases c : a ≤ far
    · rw [if_pos c] at h
      cases h
      exact ⟨p0, p1⟩
    · rw [if_neg c] at h
      cases h
  · rw [if_neg q] at h
    have k1 := hf (0 - far - b) q
    have k2 := hf (far - b) q
    dsimp only at h
    generalize (((0 - far - b : Int) : Rat) / ((e - b : Int) : Rat)) = f at h k1
    generalize (((far - b : Int) : Rat) / ((e - b : Int) : Rat)) = l at h k2
    have k3 : P (if l < f then l else f) := by split <;> assumption
    have k4 : P (if l < f then f else l) := by split <;> assumption
    generalize (if l < f then l else f) = f' at h k3
    generalize (if l < f then f else l) = l' at h k4
    by_cases c : lesR l' 1 < graR f' 0
    · rw [if_pos c] at h
      cases h
    · rw [if_neg c] at h
      cases h
      exact ⟨gra_pred k3 p0, les_pred k4 p1⟩
theorem when_pred {P : Rat → Prop} (p0 : P 0) (p1 : P 1) {w o : Way} {far : Int} (h1 : ∀ u : Int, w.1.1 - o.1.1 ≠ w.2.1 - o.2.1 → P ((u : Rat) / ((w.2.1 - o.2.1 - (w.1.1 - o.1.1) : Int) : Rat))) (h2 : ∀ u : Int, w.1.2 - o.1.2 ≠ w.2.2 - o.2.2 → P ((u : Rat) / ((w.2.2 - o.2.2 - (w.1.2 - o.1.2) : Int) : Rat)))
    {t : Rat × Rat} (h : whenR w o far = some t) : P t.1 ∧ P t.2 := by
  unfold whenR at h
  split at h
  · cases h
  · rename_i t0 e0
    split at h
    · cases h
    · rename_i t1 e1
      have q0 := within_pred p0 p1 h1 e0
      have q1 := within_pred p0 p1 h2 e1
      split at h
      · cases h
      · cases h
        exact ⟨gra_pred (gra_pred p0 q0.1) q1.1, les_pred (les_pred p1 q0.2) q1.2⟩
theorem when_den {w o : Way} {far B : Int} (hB : 1 ≤ B) (h1 : -B ≤ w.2.1 - o.2.1 - (w.1.1 - o.1.1) ∧ w.2.1 - o.2.1 - (w.1.1 - o.1.1) ≤ B) (h2 : -B ≤ w.2.2 - o.2.2 - (w.1.2 - o.1.2) ∧ w.2.2 - o.2.2 - (w.1.2 - o.1.2) ≤ B) {t : Rat × Rat} (h : whenR w o far = some t) : (t.1.den : Int) ≤ B ∧ (t.2.den : Int) ≤ B := by
  have k0 : ((0 : Rat).den : Int) ≤ B := by show ((1 : Nat) : Int) ≤ B; omega
  have k1 : ((1 : Rat).den : Int) ≤ B := by show ((1 : Nat) : Int) ≤ B; omega
  refine when_pred (P := fun q : Rat => (q.den : Int) ≤ B) k0 k1 (fun u hu => ?_) (fun u hu => ?_) h
  · have := (frac_small u (w.2.1 - o.2.1 - (w.1.1 - o.1.1)) (by omega)).2
    omega
  · have := (frac_small u (w.2.2 - o.2.2 - (w.1.2 - o.1.2)) (by omega)).2
    omega
theorem num_le_den {q : Rat} (h0 : 0 ≤ q) (h1 : q ≤ 1) : 0 ≤ q.num ∧ q.num ≤ q.den := by
  refine ⟨Rat.num_nonneg.mpr h0, ?_⟩
  have := (Rat.le_iff q 1).mp h1
  simpa using this
theorem QB_unit {q : Rat} (h0 : 0 ≤ q) (h1 : q ≤ 1) (hd : q.den ≤ 100000000) : QB q := by
  have := num_le_den h0 h1
  exact ⟨by omega, hd⟩
theorem num_div (q : Rat) : (q.num : Rat) / ((q.den : Int) : Rat) = q := by
  have h := Rat.mkRat_self q
  rw [Rat.mkRat_eq_div] at h
  exact h
theorem den_ne (q : Rat) : ((q.den : Int) : Rat) ≠ 0 := by
  have := q.den_nz
  exact_mod_cast this
theorem den_pos' (q : Rat) : (0 : Rat) < ((q.den : Int) : Rat) := by
  have := q.den_pos
  exact_mod_cast this
theorem num_eq (q : Rat) : (q.num : Rat) = q * ((q.den : Int) : Rat) := by
  have h := num_div q
  have hd := den_ne q
  generalize ((q.den : Int) : Rat) = d at h hd ⊢
  generalize (q.num : Rat) = n at h ⊢
  grind
/-- where a number on its way is -/
def posQ (a b : Int) (q : Rat) : Rat := ((a * ((q.den : Int) - q.num) + b * q.num : Int) : Rat) / (((q.den : Int) : Int) : Rat)
theorem posQ_eq (a b : Int) (q : Rat) : posQ a b q = (a : Rat) + ((b : Rat) - (a : Rat)) * q := by
  unfold posQ
  rw [Rat.intCast_add, Rat.intCast_mul, Rat.intCast_mul, Rat.intCast_sub, num_eq q]
  have hd := den_ne q
  generalize ((q.den : Int) : Rat) = d at hd ⊢
  grind
theorem nearAt_pos (a b c d far : Int) (s : Rat) : nearAt (a - c) (b - d) far s ↔ -(far : Rat) ≤ posQ a b s - posQ c d s ∧ posQ a b s - posQ c d s ≤ (far : Rat) := by
  unfold nearAt
  rw [posQ_eq, posQ_eq, Rat.intCast_sub, Rat.intCast_sub]
  have : (a : Rat) - (c : Rat) + ((b : Rat) - (d : Rat) - ((a : Rat) - (c : Rat))) * s = (a : Rat) + ((b : Rat) - (a : Rat)) * s - ((c : Rat) + ((d : Rat) - (c : Rat)) * s) := by grind
  rw [this]
/-- two fractions no farther than a whole number -/
theorem gap_le (p q : Rat) (f : Int) : (-(f * ((p.den : Int) * (q.den : Int))) ≤ p.num * (q.den : Int) - q.num * (p.den : Int) ∧ p.num * (q.den : Int) - q.num * (p.den : Int) ≤ f * ((p.den : Int) * (q.den : Int))) ↔ (-(f : Rat) ≤ p - q ∧ p - q ≤ (f : Rat)) := by
  have h1 : (((p.num * (q.den : Int) - q.num * (p.den : Int) : Int)) : Rat) = (p - q) * (((p.den : Int) : Rat) * ((q.den : Int) : Rat)) := by
    rw [Rat.intCast_sub, Rat.intCast_mul, Rat.intCast_mul, num_eq p, num_eq q]
    grind
  have h2 : (((f * ((p.den : Int) * (q.den : Int)) : Int)) : Rat) = (f : Rat) * (((p.den : Int) : Rat) * ((q.den : Int) : Rat)) := by
    rw [Rat.intCast_mul, Rat.intCast_mul]
  have hD : (0 : Rat) < ((p.den : Int) : Rat) * ((q.den : Int) : Rat) := Rat.mul_pos (den_pos' p) (den_pos' q)
  rw [← Rat.intCast_le_intCast, ← Rat.intCast_le_intCast, Rat.intCast_neg, h1, h2]
  generalize ((p.den : Int) : Rat) * ((q.den : Int) : Rat) = K at hD ⊢
  generalize p - q = v
  generalize (f : Rat) = f
  constructor
  · intro ⟨a, b⟩
    have a' : (-f) * K ≤ v * K := by grind
    exact ⟨Rat.le_of_mul_le_mul_right a' hD, Rat.le_of_mul_le_mul_right b hD⟩
  · intro ⟨a, b⟩
    have l1 := Rat.mul_le_mul_of_nonneg_right a (Rat.le_of_lt hD)
    have l2 := Rat.mul_le_mul_of_nonneg_right b (Rat.le_of_lt hD)
    exact ⟨by grind, l2⟩
instance (b e far : Int) (s : Rat) : Decidable (nearAt b e far s) := by unfold nearAt; infer_instance
instance (w o : Way) (far : Int) (s : Rat) : Decidable (nearW w o far s) := by unfold nearW; infer_instance
theorem posQ_den (a b : Int) (q : Rat) : (posQ a b q).den ≤ q.den := by
  have := (frac_small (a * ((q.den : Int) - q.num) + b * q.num) (q.den : Int) (by have := q.den_pos; omega)).2
  exact Nat.le_trans this (by simp)
theorem posQ_num {a b : Int} {q : Rat} {B : Int} (ha : 0 ≤ a ∧ a ≤ B) (hb : 0 ≤ b ∧ b ≤ B) (h0 : 0 ≤ q) (h1 : q ≤ 1) : ((posQ a b q).num.natAbs : Int) ≤ B * q.den := by
  have h := (frac_small (a * ((q.den : Int) - q.num) + b * q.num) (q.den : Int) (by have := q.den_pos; omega)).1
  obtain ⟨n0, n1⟩ := num_le_den h0 h1
  have e1 : 0 ≤ a * ((q.den : Int) - q.num) := Int.mul_nonneg ha.1 (by omega)
  have e2 : 0 ≤ b * q.num := Int.mul_nonneg hb.1 n0
  have e3 : a * ((q.den : Int) - q.num) ≤ B * ((q.den : Int) - q.num) := Int.mul_le_mul_of_nonneg_right ha.2 (by omega)
  have e4 : b * q.num ≤ B * q.num := Int.mul_le_mul_of_nonneg_right hb.2 n0
  have e5 : B * ((q.den : Int) - q.num) + B * q.num = B * q.den := by rw [← Int.mul_add]; congr 1; omega
  have h' : ((posQ a b q).num.natAbs : Int) ≤ ((a * ((q.den : Int) - q.num) + b * q.num).natAbs : Int) := by exact_mod_cast h
  omega
/-- a little ahead -/
theorem near_ahead {b e far : Int} {t : Rat} {K : Int} (hK : 1 ≤ K) (hs : -K ≤ e - b ∧ e - b ≤ K) (h : nearAt b e (far - 1) t) {s : Rat} (h0 : s ≤ t) (h1 : (t - s) * (K : Rat) ≤ 1) : nearAt b e far s := by
  unfold nearAt at h ⊢
  obtain ⟨a1, a2⟩ := h
  rw [Rat.intCast_sub] at a1 a2
  have c1 : ((-K : Int) : Rat) ≤ ((e - b : Int) : Rat) := by exact_mod_cast hs.1
  have c2 : ((e - b : Int) : Rat) ≤ (K : Rat) := by exact_mod_cast hs.2
  rw [Rat.intCast_neg, Rat.intCast_sub] at c1
  rw [Rat.intCast_sub] at c2
  generalize (e : Rat) = y at *
  generalize (b : Rat) = x at *
  generalize (far : Rat) = f at *
  generalize (K : Rat) = k at *
  have d0 : 0 ≤ t - s := by grind
  have m1 := Rat.mul_le_mul_of_nonneg_left c1 d0
  have m2 := Rat.mul_le_mul_of_nonneg_left c2 d0
  have one : ((1 : Int) : Rat) = 1 := rfl
  rw [one] at a1 a2
  have e1 : x + (y - x) * s = x + (y - x) * t - (t - s) * (y - x) := by grind
  rw [e1]
  exact ⟨by grind, by grind⟩
theorem dO_inj {a b : Option (Rat × Rat)} (h : dO a = dO b) : a = b := by
  cases a with
  | none => cases b with
    | none => rfl
    | some t => cases h
  | some s => cases b with
    | none => cases h
    | some t =>
      simp [dI] at h
      exact congrArg some (Prod.ext (dQ_inj h.1) (dQ_inj h.2))
theorem pq_O (a : Option (Rat × Rat)) : pq (dO a) = true ∧ dep (dO a) ≤ 64 := by
  cases a with
  | none => exact ⟨rfl, by simp [dO, dep]⟩
  | some t => exact ⟨rfl, by simp [dO, dI, dQ, dep, depL]⟩
theorem nm_OO (a b : Option (Rat × Rat)) : nm (dO a) (dO b) = true := by cases a <;> cases b <;> rfl
theorem nm_O (a b : Option (Rat × Rat)) {S : Sto} : neD S [dO a, dO b] = some (.bl (!decide (a = b)), S) := by
  rw [neD_pq (pq_O a).1 (pq_O b).1 (nm_OO a b) (pq_O a).2 (pq_O b).2]
  by_cases h : a = b
  · subst h; simp
  · have : dO a ≠ dO b := fun z => h (dO_inj z)
    simp [h, this]
theorem eq_Q (a b : Rat) {S : Sto} : eqD S [dQ a, dQ b] = some (.bl (decide (a = b)), S) := by
  rw [eqD_pq (by rfl) (by rfl) (by rfl) (by simp [dQ, dep, depL]) (by simp [dQ, dep, depL])]
  by_cases h : a = b
  · subst h; simp
  · have : dQ a ≠ dQ b := fun z => h (dQ_inj z)
    simp [h, this]
theorem ne_bl (a b : Bool) {S : Sto} : neD S [.bl a, .bl b] = some (.bl (a != b), S) := by cases a <;> cases b <;> rfl
theorem ne_I (a b : Rat × Rat) {S : Sto} : neD S [dI a, dI b] = some (.bl (!decide (a = b)), S) := by
  have := nm_O (some a) (some b) (S := S)
  simpa using this
theorem back_frac (q : Rat) : D.tup [.int ((q.den : Int) - q.num), .int (q.den : Int)] = dQ (1 - q) := by
  have h1 : (1 - q : Rat) = mkRat ((q.den : Int) - q.num) q.den := by
    have hq := Rat.mkRat_self q
    have hd : ((q.den : Nat) : Rat) ≠ 0 := by
      have := q.den_nz
      exact_mod_cast this
    rw [Rat.mkRat_eq_div]
    conv => lhs; rw [← hq, Rat.mkRat_eq_div]
    rw [Rat.intCast_sub]
    have : (((q.den : Nat) : Int) : Rat) = ((q.den : Nat) : Rat) := Rat.intCast_natCast _
    rw [this]
    grind
  have hr : ((q.den : Int) - q.num).natAbs.Coprime q.den := by
    have := q.reduced
    have e : Int.gcd ((q.den : Int) - q.num) (q.den : Int) = 1 := by
      have : Int.gcd (q.num) (q.den : Int) = 1 := this
      rw [← this]
      have e1 : (q.den : Int) - q.num = -(q.num - q.den * 1) := by omega
      rw [e1, Int.neg_gcd, Int.gcd_sub_mul_left_left]
    exact e
  have h2 : (1 - q : Rat) = Rat.mk' ((q.den : Int) - q.num) q.den q.den_nz hr := by
    rw [h1, Rat.mk_eq_mkRat]
  rw [h2]
  rfl
theorem within_pred2 {P : Rat → Prop} (p0 : P 0) (p1 : P 1) {b e far : Int} (h1 : b ≠ e → P ((((-far) - b : Int) : Rat) / ((e - b : Int) : Rat))) (h2 : b ≠ e → P (((far - b : Int) : Rat) / ((e - b : Int) : Rat))) {t : Rat × Rat} (h : withinR b e far = some t) : P t.1 ∧ P t.2 := by
  unfold withinR at h
  rw [show (0 - far - b : Int) = -far - b by omega] at h
  by_cases q : b = e
  · rw [if_pos q] at h
    generalize (if b < 0 then -b else b) = a at h
    by_cases c : a ≤ far
    · rw [if_pos c] at h
      cases h
      exact ⟨p0, p1⟩
    · rw [if_neg c] at h
      cases h
  · rw [if_neg q] at h
    have k1 := h1 q
    have k2 := h2 q
    dsimp only at h
    generalize (((-far - b : Int) : Rat) / ((e - b : Int) : Rat)) = f at h k1
    generalize (((far - b : Int) : Rat) / ((e - b : Int) : Rat)) = l at h k2
    have k3 : P (if l < f then l else f) := by split <;> assumption
    have k4 : P (if l < f then f else l) := by split <;> assumption
    generalize (if l < f then l else f) = f' at h k3
    generalize (if l < f then f else l) = l' at h k4
    by_cases c : lesR l' 1 < graR f' 0
    · rw [if_pos c] at h
      cases h
    · rw [if_neg c] at h
      cases h
      exact ⟨gra_pred k3 p0, les_pred k4 p1⟩
/-! ### by hand: all times at which a way comes to the rim -/
def hitR (b e g : Int) : List Rat := if e - b ≠ 0 ∧ 0 ≤ (g - b) * (e - b) ∧ (g - b) * (e - b) ≤ (e - b) * (e - b) then [((g - b : Int) : Rat) / ((e - b : Int) : Rat)] else []
def hitsR (b e far : Int) : List Rat := [0, 1] ++ hitR b e (-far) ++ hitR b e far
theorem div_unit (p v : Int) (hv : v ≠ 0) : (0 ≤ p * v ∧ p * v ≤ v * v) ↔ (0 ≤ (p : Rat) / (v : Rat) ∧ (p : Rat) / (v : Rat) ≤ 1) := by
  have hv' : (v : Rat) ≠ 0 := by exact_mod_cast hv
  have hvv : (0 : Rat) < (v : Rat) * (v : Rat) := by
    rcases Int.lt_or_gt_of_ne hv with h | h
    · have : (v : Rat) < 0 := by exact_mod_cast h
      have := Rat.mul_pos (show (0 : Rat) < -(v : Rat) by grind) (show (0 : Rat) < -(v : Rat) by grind)
      grind
    · have : (0 : Rat) < (v : Rat) := by exact_mod_cast h
      exact Rat.mul_pos this this
  have e1 : ((p * v : Int) : Rat) = (p : Rat) / (v : Rat) * ((v : Rat) * (v : Rat)) := by
    rw [Rat.intCast_mul]
    grind
  rw [← Rat.intCast_le_intCast, ← Rat.intCast_le_intCast (a := p * v), e1, Rat.intCast_mul]
  generalize (p : Rat) / (v : Rat) = x
  generalize (v : Rat) * (v : Rat) = y at hvv
  have z : ((0 : Int) : Rat) = 0 := rfl
  rw [z]
  constructor
  · intro ⟨a, b⟩
    exact ⟨Rat.le_of_mul_le_mul_right (by grind) hvv, Rat.le_of_mul_le_mul_right (c := y) (by grind) hvv⟩
  · intro ⟨a, b⟩
    have l1 := Rat.mul_le_mul_of_nonneg_right a (Rat.le_of_lt hvv)
    have l2 := Rat.mul_le_mul_of_nonneg_right b (Rat.le_of_lt hvv)
    exact ⟨by grind, by grind⟩
theorem hit_mem {b e g : Int} {q : Rat} (h : q ∈ hitR b e g) : 0 ≤ q ∧ q ≤ 1 ∧ b ≠ e ∧ q = ((g - b : Int) : Rat) / ((e - b : Int) : Rat) := by
  unfold hitR at h
  split at h
  · rename_i c
    rw [List.mem_singleton] at h
    subst h
    have := (div_unit (g - b) (e - b) c.1).mp c.2
    exact ⟨this.1, this.2, by omega, rfl⟩
  · cases h
theorem hit_of {b e g : Int} (hne : b ≠ e) (h0 : 0 ≤ ((g - b : Int) : Rat) / ((e - b : Int) : Rat)) (h1 : ((g - b : Int) : Rat) / ((e - b : Int) : Rat) ≤ 1) : ((g - b : Int) : Rat) / ((e - b : Int) : Rat) ∈ hitR b e g := by
  unfold hitR
  rw [if_pos ⟨by omega, (div_unit (g - b) (e - b) (by omega)).mpr ⟨h0, h1⟩⟩]
  exact List.mem_singleton.mpr rfl
theorem hits_mem {b e far : Int} {q : Rat} (h : q ∈ hitsR b e far) : 0 ≤ q ∧ q ≤ 1 := by
  unfold hitsR at h
  rcases List.mem_append.mp h with h | h
  · rcases List.mem_append.mp h with h | h
    · simp at h
      rcases h with rfl | rfl <;> exact ⟨by decide, by decide⟩
    · exact ⟨(hit_mem h).1, (hit_mem h).2.1⟩
  · exact ⟨(hit_mem h).1, (hit_mem h).2.1⟩
theorem hits_len (b e far : Int) : (hitsR b e far).length ≤ 4 := by
  unfold hitsR hitR
  split <;> split <;> simp
theorem within_hits {b e far : Int} (hf : 0 ≤ far) {t : Rat × Rat} (h : withinR b e far = some t) : t.1 ∈ hitsR b e far ∧ t.2 ∈ hitsR b e far := by
  have sp := within_span b e far hf
  rw [h] at sp
  obtain ⟨a0, a1, a2, a3⟩ := sp
  have := within_pred2 (P := fun q => 0 ≤ q → q ≤ 1 → q ∈ hitsR b e far) (fun _ _ => by simp [hitsR]) (fun _ _ => by simp [hitsR])
    (fun hne h0 h1 => by unfold hitsR; exact List.mem_append_left _ (List.mem_append_right _ (hit_of hne h0 h1))) (fun hne h0 h1 => by unfold hitsR; exact List.mem_append_right _ (hit_of hne h0 h1)) h
  exact ⟨this.1 (by grind) (by grind), this.2 (by grind) (by grind)⟩
def wHits (w o : Way) (far : Int) : List Rat := hitsR (w.1.1 - o.1.1) (w.2.1 - o.2.1) far ++ hitsR (w.1.2 - o.1.2) (w.2.2 - o.2.2) far
theorem when_hits {w o : Way} {far : Int} (hf : 0 ≤ far) {t : Rat × Rat} (h : whenR w o far = some t) : t.1 ∈ wHits w o far ∧ t.2 ∈ wHits w o far := by
  unfold whenR at h
  split at h
  · cases h
  · rename_i t0 e0
    split at h
    · cases h
    · rename_i t1 e1
      have q0 := within_hits hf e0
      have q1 := within_hits hf e1
      have z0 : (0 : Rat) ∈ wHits w o far := by simp [wHits, hitsR]
      have z1 : (1 : Rat) ∈ wHits w o far := by simp [wHits, hitsR]
      split at h
      · cases h
      · cases h
        exact ⟨gra_pred (P := fun q => q ∈ wHits w o far) (gra_pred (P := fun q => q ∈ wHits w o far) z0 (List.mem_append_left _ q0.1)) (List.mem_append_right _ q1.1), les_pred (P := fun q => q ∈ wHits w o far) (les_pred (P := fun q => q ∈ wHits w o far) z1 (List.mem_append_left _ q0.2)) (List.mem_append_right _ q1.2)⟩
theorem foldl_les : ∀ (ts : List Rat) (a : Rat), (ts.foldl lesR a = a ∨ ts.foldl lesR a ∈ ts) ∧ ts.foldl lesR a ≤ a ∧ ∀ t ∈ ts, ts.foldl lesR a ≤ t
  | [], a => ⟨.inl rfl, by show a ≤ a; grind, fun t h => by cases h⟩
  | t :: ts, a => by
    obtain ⟨h1, h2, h3⟩ := foldl_les ts (lesR a t)
    have hl := (les_le a t (lesR a t)).mp (by grind)
    refine ⟨?_, by show ts.foldl lesR (lesR a t) ≤ a; grind, fun s hs => ?_⟩
    · show ts.foldl lesR (lesR a t) = a ∨ _
      rcases h1 with h1 | h1
      · rw [show (t :: ts).foldl lesR a = ts.foldl lesR (lesR a t) from rfl, h1]
        unfold lesR
        split
        · exact .inr (by simp)
        · exact .inl rfl
      · exact .inr (List.mem_cons_of_mem _ h1)
    · show ts.foldl lesR (lesR a t) ≤ s
      rcases List.mem_cons.mp hs with rfl | hs
      · grind
      · exact h3 s hs
theorem foldl_gra : ∀ (ts : List Rat) (a : Rat), (ts.foldl graR a = a ∨ ts.foldl graR a ∈ ts) ∧ a ≤ ts.foldl graR a ∧ ∀ t ∈ ts, t ≤ ts.foldl graR a
  | [], a => ⟨.inl rfl, by show a ≤ a; grind, fun t h => by cases h⟩
  | t :: ts, a => by
    obtain ⟨h1, h2, h3⟩ := foldl_gra ts (graR a t)
    have hl := (gra_le a t (graR a t)).mp (by grind)
    refine ⟨?_, by show a ≤ ts.foldl graR (graR a t); grind, fun s hs => ?_⟩
    · show ts.foldl graR (graR a t) = a ∨ _
      rcases h1 with h1 | h1
      · rw [show (t :: ts).foldl graR a = ts.foldl graR (graR a t) from rfl, h1]
        unfold graR
        split
        · exact .inr (by simp)
        · exact .inl rfl
      · exact .inr (List.mem_cons_of_mem _ h1)
    · show s ≤ ts.foldl graR (graR a t)
      rcases List.mem_cons.mp hs with rfl | hs
      · grind
      · exact h3 s hs
/-- the least and the greatest of the times that are of a kind -/
def spanL : List Rat → Option (Rat × Rat)
  | [] => none
  | t :: ts => some ((t :: ts).foldl lesR t, (t :: ts).foldl graR t)
theorem span_hits {P : Rat → Prop} [DecidablePred P] {a : Option (Rat × Rat)} {hs : List Rat} (h : Span P a) (hu : ∀ q ∈ hs, 0 ≤ q ∧ q ≤ 1) (hm : ∀ t, a = some t → t.1 ∈ hs ∧ t.2 ∈ hs) : spanL (hs.filter fun q => decide (P q)) = a := by
  cases a with
  | none =>
    have : hs.filter (fun q => decide (P q)) = [] := by
      rw [List.filter_eq_nil_iff]
      intro q hq
      simpa using h q (hu q hq).1 (hu q hq).2
    rw [this]
    rfl
  | some t =>
    obtain ⟨a0, a1, a2, a3⟩ := h
    obtain ⟨m1, m2⟩ := hm t rfl
    have f1 : t.1 ∈ hs.filter (fun q => decide (P q)) := List.mem_filter.mpr ⟨m1, by simpa using ((a3 t.1).mpr ⟨by grind, a1⟩).2.2⟩
    have f2 : t.2 ∈ hs.filter (fun q => decide (P q)) := List.mem_filter.mpr ⟨m2, by simpa using ((a3 t.2).mpr ⟨a1, by grind⟩).2.2⟩
    have bd : ∀ q ∈ hs.filter (fun q => decide (P q)), t.1 ≤ q ∧ q ≤ t.2 := fun q hq => by
      obtain ⟨q1, q2⟩ := List.mem_filter.mp hq
      have := hu q q1
      exact (a3 q).mp ⟨this.1, this.2, by simpa using q2⟩
    cases hf : hs.filter (fun q => decide (P q)) with
    | nil => rw [hf] at f1; cases f1
    | cons x xs =>
      rw [hf] at f1 f2 bd
      obtain ⟨g1, g2, g3⟩ := foldl_les (x :: xs) x
      obtain ⟨k1, k2, k3⟩ := foldl_gra (x :: xs) x
      have e1 : (x :: xs).foldl lesR x ∈ x :: xs := g1.elim (fun e => by rw [e]; exact List.mem_cons_self) id
      have e2 : (x :: xs).foldl graR x ∈ x :: xs := k1.elim (fun e => by rw [e]; exact List.mem_cons_self) id
      have b1 := bd _ e1
      have b2 := bd _ e2
      have c1 := g3 _ f1
      have c2 := k3 _ f2
      show some ((x :: xs).foldl lesR x, (x :: xs).foldl graR x) = some t
      exact congrArg some (Prod.ext (by show (x :: xs).foldl lesR x = t.1; grind) (by show (x :: xs).foldl graR x = t.2; grind))
theorem nearAt_int (b e far : Int) (q : Rat) : nearAt b e far q ↔ -far * (q.den : Int) ≤ b * ((q.den : Int) - q.num) + e * q.num ∧ b * ((q.den : Int) - q.num) + e * q.num ≤ far * (q.den : Int) := by
  have h := posQ_eq b e q
  unfold nearAt
  rw [← h]
  unfold posQ
  rw [le_div_r (den_pos' q), div_le_r (den_pos' q), ← Rat.intCast_neg, ← Rat.intCast_mul, ← Rat.intCast_mul, Rat.intCast_le_intCast, Rat.intCast_le_intCast]
end NT
/-! boards, dicts of pairs, truths of lists -/
namespace NT
open PySem L2
theorem asBls_bls : ∀ bs : List Bool, asBls (bs.map D.bl) = some bs
  | [] => rfl
  | b :: bs => by simp [asBls, asBls_bls bs]
theorem all_bls {S : Sto} (bs : List Bool) : allD S [.lst (bs.map D.bl)] = some (.bl (bs.all id), S) := by simp [allD, asBls_bls]
theorem any_bls {S : Sto} (bs : List Bool) : anyD S [.lst (bs.map D.bl)] = some (.bl (bs.any id), S) := by simp [anyD, asBls_bls]
/-- all, over a comprehension -/
theorem all_map {A : Type} {S : Sto} (f : A → Bool) (xs : List A) : allD S [.lst (xs.map fun x => D.bl (f x))] = some (.bl (xs.all f), S) := by
  have := all_bls (S := S) (xs.map f)
  rw [List.map_map] at this
  rw [show (fun x => D.bl (f x)) = D.bl ∘ f from rfl, this, List.all_map]
  rfl
theorem any_map {A : Type} {S : Sto} (f : A → Bool) (xs : List A) : anyD S [.lst (xs.map fun x => D.bl (f x))] = some (.bl (xs.any f), S) := by
  have := any_bls (S := S) (xs.map f)
  rw [List.map_map] at this
  rw [show (fun x => D.bl (f x)) = D.bl ∘ f from rfl, this, List.any_map]
  rfl
theorem all_rep {S : Sto} (k : Nat) : allD S [.lst (List.replicate k (.bl true))] = some (.bl true, S) := by
  have := all_bls (S := S) (List.replicate k true)
  rw [List.map_replicate] at this
  rw [this]
  simp
theorem all_const {A : Type} {S : Sto} (xs : List A) : allD S [.lst (xs.map fun _ => D.bl true)] = some (.bl true, S) := by
  rw [all_map (fun _ => true) xs]
  simp
theorem rng1 {cf : Nat → List D → Sto → R D} {a : E} {ρ : Env} {S S1 : Sto} {j : Int} (h : (ev2 cf a).1 ρ S = .ok (.int j) S1) (hj : -1000000 ≤ j ∧ j ≤ 1000000) : evIt cf (.range1 a) ρ S = .ok (rngD 0 j.toNat, []) S1 := by
  have hb : -(2 ^ 62) ≤ j ∧ j < 2 ^ 62 := ⟨by omega, by omega⟩
  rw [ei_range1]
  show (((ev2 cf a).1 ρ S).bind _) = _
  rw [h, rbind_ok]
  exact if_pos hb
theorem rng2 {cf : Nat → List D → Sto → R D} {a b : E} {ρ : Env} {S S1 S2 : Sto} {i j : Int} (h : (ev2 cf a).1 ρ S = .ok (.int i) S1) (h' : (ev2 cf b).1 ρ S1 = .ok (.int j) S2) (hi : -1000000 ≤ i ∧ i ≤ 1000000) (hj : -1000000 ≤ j ∧ j ≤ 1000000) : evIt cf (.range2 a b) ρ S = .ok (rngD i (j - i).toNat, []) S2 := by
  have hb : -(2 ^ 62) ≤ i ∧ i < 2 ^ 62 ∧ -(2 ^ 62) ≤ j ∧ j < 2 ^ 62 := ⟨by omega, by omega, by omega, by omega⟩
  rw [ei_range2]
  show (((ev2 cf a).1 ρ S).bind _) = _
  rw [h, rbind_ok]
  show (((ev2 cf b).1 ρ S1).bind _) = _
  rw [h', rbind_ok]
  exact if_pos hb
/-! dicts made of pairs -/
theorem putD_new {κ : Type} [DecidableEq κ] {kvs : List (κ × D)} {k : κ} {v : D} (h : k ∉ kvs.map (·.1)) : putD kvs k v = kvs ++ [(k, v)] := by
  unfold putD
  rw [if_neg]
  simp only [List.any_eq_true, decide_eq_true_eq, not_exists, not_and]
  intro p hp e
  exact h (List.mem_map.mpr ⟨p, hp, e⟩)
theorem mergeD_app : ∀ (more kvs : List (Key × D)), (kvs.map (·.1) ++ more.map (·.1)).Nodup → mergeD kvs more = kvs ++ more
  | [], kvs, _ => by simp [mergeD]
  | kv :: more, kvs, h => by
    show mergeD (putD kvs kv.1 kv.2) more = _
    have hn : kv.1 ∉ kvs.map (·.1) := fun z => by
      have := (List.nodup_append.mp h).2.2 _ z _ (List.mem_map.mpr ⟨kv, List.mem_cons_self, rfl⟩)
      exact this rfl
    rw [putD_new hn, mergeD_app more]
    · simp
    · simpa using h
theorem mergeD_nodup {kvs : List (Key × D)} (h : (kvs.map (·.1)).Nodup) : mergeD [] kvs = kvs := by
  rw [mergeD_app kvs [] (by simpa using h)]
  rfl
theorem look_mem {kvs : List (Key × D)} (h : (kvs.map (·.1)).Nodup) : ∀ {k : Key} {v : D}, (k, v) ∈ kvs → look kvs k = some v := by
  induction kvs with
  | nil => intro k v z; cases z
  | cons kv kvs ih =>
    intro k v z
    rcases List.mem_cons.mp z with e | z
    · subst e
      simp [look]
    · have hne : kv.1 ≠ k := fun e => by
        have := (List.nodup_cons.mp (by simpa using h : (kv.1 :: kvs.map (·.1)).Nodup)).1
        exact this (List.mem_map.mpr ⟨(k, v), z, e.symm⟩)
      have := ih (List.nodup_cons.mp (by simpa using h : (kv.1 :: kvs.map (·.1)).Nodup)).2 z
      simp only [look, List.find?_cons, hne, decide_false] at this ⊢
      exact this
/-- an ints' dict, from pairs -/
def kvi {A : Type} (k : A → Int) (v : A → D) (xs : List A) : List (Key × D) := xs.map fun x => (.inl (k x), v x)
theorem kvi_keys {A : Type} (k : A → Int) (v : A → D) (xs : List A) : (kvi k v xs).map (·.1) = xs.map fun x => (.inl (k x) : Key) := by simp [kvi, Function.comp_def]
theorem kvi_nodup {A : Type} {k : A → Int} {v : A → D} {xs : List A} (h : (xs.map k).Nodup) : ((kvi k v xs).map (·.1)).Nodup := by
  rw [kvi_keys]
  have : (xs.map fun x => (.inl (k x) : Key)) = (xs.map k).map Sum.inl := by simp [Function.comp_def]
  rw [this]
  rw [List.nodup_iff_pairwise_ne, List.pairwise_map]
  exact (List.nodup_iff_pairwise_ne.mp h).imp fun a e => a (Sum.inl.inj e)
theorem pairsOf_kvi {A : Type} (k : A → Int) (v : A → D) : ∀ xs : List A, pairsOf (xs.map fun x => D.tup [.int (k x), v x]) = some (kvi k v xs)
  | [] => rfl
  | x :: xs => by
    rw [List.map_cons, pairsOf, pairsOf_kvi k v xs]
    rfl
theorem dict_kvi {A : Type} {S : Sto} (k : A → Int) (v : A → D) {xs : List A} (h : (xs.map k).Nodup) : dictD S [.lst (xs.map fun x => D.tup [.int (k x), v x])] = some (.ref S.length, S ++ [.dK (kvi k v xs)]) := by
  simp [dictD, pairsOf_kvi, mergeD_nodup (kvi_nodup (v := v) h)]
theorem look_kvi {A : Type} {k : A → Int} {v : A → D} {xs : List A} (h : (xs.map k).Nodup) {x : A} (hx : x ∈ xs) : look (kvi k v xs) (.inl (k x)) = some (v x) := look_mem (kvi_nodup h) (List.mem_map.mpr ⟨x, hx, rfl⟩)
theorem idx_kvi {A : Type} {S : Sto} {i : Nat} {k : A → Int} {v : A → D} {xs : List A} (hc : S[i]? = some (.dK (kvi k v xs))) (h : (xs.map k).Nodup) {x : A} (hx : x ∈ xs) : idxD S [.ref i, .int (k x)] = some (v x, S) := by
  simp [idxD, dGet, asSeq, hc, keyOf, look_kvi h hx]
theorem keys_kvi {A : Type} {S : Sto} {i : Nat} {k : A → Int} {v : A → D} {xs : List A} (hc : S[i]? = some (.dK (kvi k v xs))) : itemsOf S (.ref i) = some ((xs.map k).map D.int) := by
  simp [itemsOf, asSeq, hc, dictKeys, kvi, keyD, Function.comp_def]
theorem sorted_up {ns : List Int} (h : ns.Pairwise (· < ·)) : (ns.mergeSort fun a b => decide (a ≤ b)) = ns :=
  List.mergeSort_of_pairwise (h.imp fun a => by simpa using Int.le_of_lt a)
theorem up_nodup {ts : List Thing} (h : ts.Pairwise fun a b => a.n < b.n) : (ts.map (·.n)).Nodup := by
  rw [List.nodup_iff_pairwise_ne, List.pairwise_map]
  exact h.imp fun a => by omega
/-- the first so many of the rows in order, as many as are no farther: just those -/
theorem take_near {rs : List (Int × Int)} {far : Int} (h : rs.Pairwise fun a b => prLe a b = true) : rs.take (rs.filter fun q => decide (q.1 ≤ far)).length = rs.filter fun q => decide (q.1 ≤ far) := by
  induction rs with
  | nil => rfl
  | cons r rs ih =>
    have hp := List.pairwise_cons.mp h
    by_cases hr : r.1 ≤ far
    · have := ih hp.2
      simp only [List.filter_cons, hr, decide_true, if_true, List.length_cons, List.take_succ_cons]
      rw [this]
    · have : (r :: rs).filter (fun q => decide (q.1 ≤ far)) = [] := by
        rw [List.filter_eq_nil_iff]
        intro q hq
        rcases List.mem_cons.mp hq with rfl | hq
        · simpa using hr
        · have := hp.1 q hq
          simp only [prLe, decide_eq_true_eq] at this
          simp only [decide_eq_true_eq]
          omega
      rw [this]
      rfl
theorem rows_sorted (ts : List Thing) (p : Int × Int) : ((ts.map (rowOf p)).mergeSort prLe).Pairwise fun a b => prLe a b = true := List.pairwise_mergeSort prLe_trans prLe_total _
theorem near_len (ts : List Thing) (p : Int × Int) (far : Int) : (nearL ts p far).length ≤ ts.length := by
  unfold nearL
  rw [List.length_map]
  exact List.length_filter_le _ _
/-- the nearest, as many as are no farther, are those -/
theorem nearest_near {ts : List Thing} {p : Int × Int} {far : Int} (hu : ts.Pairwise fun a b => a.n < b.n) : ((nearestL ts p (nearL ts p far).length).mergeSort fun a b => decide (a ≤ b)) = nearL ts p far := by
  have hlen : (nearL ts p far).length = (((ts.map (rowOf p)).mergeSort prLe).filter fun q => decide (q.1 ≤ far)).length := by
    rw [← rows_near, List.length_map]
    exact (((List.mergeSort_perm (ts.map (rowOf p)) prLe).symm.filter _)).length_eq
  have e : nearestL ts p (nearL ts p far).length = (((ts.map (rowOf p)).mergeSort prLe).filter fun q => decide (q.1 ≤ far)).map (·.2) := by
    unfold nearestL
    rw [show ((nearL ts p far).length : Int).toNat = (nearL ts p far).length from rfl, hlen, take_near (rows_sorted ts p)]
  rw [e]
  have hperm : ((((ts.map (rowOf p)).mergeSort prLe).filter fun q => decide (q.1 ≤ far)).map (·.2)).Perm (nearL ts p far) := by
    rw [← rows_near]
    exact ((List.mergeSort_perm (ts.map (rowOf p)) prLe).filter _).map _
  have s1 := List.pairwise_mergeSort (le := fun a b : Int => decide (a ≤ b)) (by intro a b c; simp; omega) (by intro a b; simp; omega) ((((ts.map (rowOf p)).mergeSort prLe).filter fun q => decide (q.1 ≤ far)).map (·.2))
  have up : (nearL ts p far).Pairwise (· < ·) := by
    unfold nearL
    rw [List.pairwise_map]
    exact List.Pairwise.filter _ hu
  have p2 := (List.mergeSort_perm ((((ts.map (rowOf p)).mergeSort prLe).filter fun q => decide (q.1 ≤ far)).map (·.2)) fun a b => decide (a ≤ b)).trans hperm
  exact p2.eq_of_pairwise (le := fun a b : Int => a ≤ b) (fun a b _ _ h1 h2 => by omega) (s1.imp fun h => by simpa using h) (up.imp fun h => Int.le_of_lt h)
end NT
/-! rooms, plainly: doors, walks, how far -/
namespace NT
open PySem
abbrev Doors := List (Int × Int)
def adj (ds : Doors) (a b : Int) : Prop := (a, b) ∈ ds ∨ (b, a) ∈ ds
def walk (ds : Doors) : Nat → Int → Int → Prop
  | 0, a, b => a = b
  | n + 1, a, b => ∃ c, walk ds n a c ∧ adj ds c b
def doorB (p : Int × Int) : Bool := decide (0 ≤ p.1 ∧ p.1 ≤ 9 ∧ 0 ≤ p.2 ∧ p.2 ≤ 9 ∧ p.1 < p.2)
def prLt (p q : Int × Int) : Bool := decide (p.1 < q.1 ∨ (p.1 = q.1 ∧ p.2 < q.2))
structure DOk (ds : Doors) : Prop where
  bd : ∀ p ∈ ds, 0 ≤ p.1 ∧ p.1 < p.2 ∧ p.2 ≤ 9
  up : ds.Pairwise fun p q => prLt p q = true
theorem adj_symm {ds : Doors} {a b : Int} (h : adj ds a b) : adj ds b a := h.symm
theorem DOk.adj_ne {ds : Doors} (h : DOk ds) {a b : Int} (e : adj ds a b) : a ≠ b := by
  rcases e with e | e <;> (have := h.bd _ e; omega)
theorem DOk.adj_bd {ds : Doors} (h : DOk ds) {a b : Int} (e : adj ds a b) : 0 ≤ b ∧ b ≤ 9 := by
  rcases e with e | e <;> (have := h.bd _ e; omega)
theorem walk_app {ds : Doors} {a b c : Int} {m : Nat} : ∀ {n : Nat}, walk ds m a b → walk ds n b c → walk ds (m + n) a c
  | 0, h, h' => by cases h'; exact h
  | n + 1, h, h' => by
    obtain ⟨x, h1, h2⟩ := h'
    exact ⟨x, walk_app h h1, h2⟩
theorem walk_one {ds : Doors} {a b : Int} : walk ds 1 a b ↔ adj ds a b := by
  constructor
  · rintro ⟨c, h1, h2⟩
    cases h1
    exact h2
  · exact fun h => ⟨a, rfl, h⟩
theorem walk_symm {ds : Doors} : ∀ {n : Nat} {a b : Int}, walk ds n a b → walk ds n b a
  | 0, _, _, h => by cases h; rfl
  | n + 1, a, b, h => by
    obtain ⟨c, h1, h2⟩ := h
    have := walk_app (walk_one.mpr (adj_symm h2)) (walk_symm h1)
    rw [Nat.add_comm] at this
    exact this
theorem walk_mono {ds ds' : Doors} (k : ∀ p ∈ ds, p ∈ ds') : ∀ {n : Nat} {a b : Int}, walk ds n a b → walk ds' n a b
  | 0, _, _, h => h
  | n + 1, a, b, h => by
    obtain ⟨c, h1, h2⟩ := h
    exact ⟨c, walk_mono k h1, h2.imp (k _) (k _)⟩
theorem walk_bd {ds : Doors} (h : DOk ds) {a b : Int} (ha : 0 ≤ a ∧ a ≤ 9) : ∀ {n : Nat}, walk ds n a b → 0 ≤ b ∧ b ≤ 9
  | 0, e => by cases e; exact ha
  | n + 1, e => by
    obtain ⟨c, _, h2⟩ := e
    exact h.adj_bd h2
/-- n is the length of the shortest walk -/
def Dst (ds : Doors) (a b : Int) (n : Nat) : Prop := walk ds n a b ∧ ∀ m, walk ds m a b → n ≤ m
theorem Dst.uniq {ds : Doors} {a b : Int} {n m : Nat} (h : Dst ds a b n) (h' : Dst ds a b m) : n = m := Nat.le_antisymm (h.2 m h'.1) (h'.2 n h.1)
theorem Dst.symm {ds : Doors} {a b : Int} {n : Nat} (h : Dst ds a b n) : Dst ds b a n := ⟨walk_symm h.1, fun m w => h.2 m (walk_symm w)⟩
theorem Dst.self {ds : Doors} {a : Int} : Dst ds a a 0 := ⟨rfl, fun _ _ => Nat.zero_le _⟩
theorem Dst.zero {ds : Doors} {a b : Int} : Dst ds a b 0 ↔ a = b := ⟨fun h => h.1, fun h => by subst h; exact .self⟩
theorem Dst.one {ds : Doors} (h : DOk ds) {a b : Int} : Dst ds a b 1 ↔ adj ds a b := by
  refine ⟨fun e => walk_one.mp e.1, fun e => ⟨walk_one.mpr e, fun m w => ?_⟩⟩
  cases m with
  | zero => exact absurd w (h.adj_ne e)
  | succ m => omega
/-- the room before -/
theorem Dst.pred {ds : Doors} {a b : Int} {n : Nat} (h : Dst ds a b (n + 1)) : ∃ c, adj ds c b ∧ Dst ds a c n := by
  obtain ⟨c, h1, h2⟩ := h.1
  refine ⟨c, h2, h1, fun m w => ?_⟩
  have := h.2 (m + 1) ⟨c, w, h2⟩
  omega
theorem Dst.exists {ds : Doors} {a b : Int} : ∀ {n : Nat}, walk ds n a b → ∃ m, m ≤ n ∧ Dst ds a b m := by
  intro n
  induction n using Nat.strongRecOn with
  | ind n ih =>
    intro w
    by_cases hs : ∃ m, m < n ∧ walk ds m a b
    · obtain ⟨m, hm, w'⟩ := hs
      obtain ⟨k, hk, d⟩ := ih m hm w'
      exact ⟨k, by omega, d⟩
    · refine ⟨n, Nat.le_refl _, w, fun m w' => ?_⟩
      exact Nat.le_of_not_lt fun z => hs ⟨m, z, w'⟩

/-! ### beside -/
def bes (ds : Doors) (r : Int) : List Int := ((ds.filter fun p => decide (r = p.1 ∨ r = p.2)).map fun p => p.1 + p.2 - r).mergeSort fun a b => decide (a ≤ b)
theorem mem_bes {ds : Doors} {r x : Int} : x ∈ bes ds r ↔ adj ds r x := by
  unfold bes adj
  rw [List.mem_mergeSort]
  simp only [List.mem_map, List.mem_filter, decide_eq_true_eq]
  constructor
  · rintro ⟨⟨a, b⟩, ⟨h1, h2⟩, rfl⟩
    rcases h2 with h2 | h2
    · simp only at h2
      subst h2
      left
      have : r + b - r = b := by omega
      rw [this]
      exact h1
    · simp only at h2
      subst h2
      right
      have : a + r - r = a := by omega
      rw [this]
      exact h1
  · rintro (h | h)
    · exact ⟨(r, x), ⟨h, .inl rfl⟩, by show r + x - r = x; omega⟩
    · exact ⟨(x, r), ⟨h, .inr rfl⟩, by show x + r - r = x; omega⟩

/-! ### the search -/
/-- L: what is found, in order; the first k are done -/
structure Bfs (ds : Doors) (r : Int) (L : List (Int × Int)) (k : Nat) : Prop where
  nd : (L.map (·.1)).Nodup
  rng : ∀ p ∈ L, 0 ≤ p.1 ∧ p.1 ≤ 9
  hd : (r, 0) ∈ L
  wk : ∀ p ∈ L, ∃ n : Nat, p.2 = n ∧ walk ds n r p.1
  mono : L.Pairwise fun p q => p.2 ≤ q.2
  last : ∀ p ∈ L.drop k, ∀ q ∈ L, q.2 ≤ p.2 + 1
  done : ∀ p ∈ L.take k, ∀ y, adj ds p.1 y → ∃ q ∈ L, q.1 = y ∧ q.2 ≤ p.2 + 1
  le : k ≤ L.length
  ix : ∀ (i : Nat) p, L[i]? = some p → p.2 ≤ i
theorem Bfs.start {ds : Doors} {r : Int} (hr : 0 ≤ r ∧ r ≤ 9) : Bfs ds r [(r, 0)] 0 where
  nd := by simp
  rng := by simpa using hr
  hd := by simp
  wk := by
    intro p hp
    simp at hp
    subst hp
    exact ⟨0, rfl, rfl⟩
  mono := by simp
  last := by simp
  done := by simp
  le := by simp
  ix := by
    intro i p e
    cases i with
    | zero => simp at e; subst e; simp
    | succ i => simp at e
/-- one neighbour looked at -/
def bfsAdd (d : Int) (L : List (Int × Int)) (x : Int) : List (Int × Int) := if x ∈ L.map (·.1) then L else L ++ [(x, d)]
theorem bfsAdd_sub {d x : Int} {L : List (Int × Int)} : ∀ p ∈ L, p ∈ bfsAdd d L x := fun p hp => by
  unfold bfsAdd
  split
  · exact hp
  · exact List.mem_append_left _ hp
theorem bfsFold_sub {d : Int} : ∀ (xs : List Int) (L : List (Int × Int)), ∀ p ∈ L, p ∈ xs.foldl (bfsAdd d) L
  | [], _, p, hp => hp
  | x :: xs, L, p, hp => bfsFold_sub xs _ p (bfsAdd_sub p hp)
theorem bfsFold_pre {d : Int} : ∀ (xs : List Int) (L : List (Int × Int)), ∃ M, xs.foldl (bfsAdd d) L = L ++ M ∧ (∀ p ∈ M, p.1 ∈ xs ∧ p.2 = d) ∧ (∀ p ∈ M, p.1 ∉ L.map (·.1)) ∧ (M.map (·.1)).Nodup
  | [], L => ⟨[], by simp, by simp, by simp, by simp⟩
  | x :: xs, L => by
    obtain ⟨M, h1, h2, h3, h4⟩ := bfsFold_pre (d := d) xs (bfsAdd d L x)
    simp only [List.foldl_cons]
    by_cases hx : x ∈ L.map (·.1)
    · have e : bfsAdd d L x = L := if_pos hx
      rw [e] at h1 h3 ⊢
      exact ⟨M, h1, fun p hp => ⟨List.mem_cons_of_mem _ (h2 p hp).1, (h2 p hp).2⟩, h3, h4⟩
    · have e : bfsAdd d L x = L ++ [(x, d)] := if_neg hx
      rw [e] at h1 h3 ⊢
      refine ⟨(x, d) :: M, by rw [h1]; simp, fun p hp => ?_, fun p hp => ?_, ?_⟩
      · rcases List.mem_cons.mp hp with rfl | hp
        · exact ⟨List.mem_cons_self, rfl⟩
        · exact ⟨List.mem_cons_of_mem _ (h2 p hp).1, (h2 p hp).2⟩
      · rcases List.mem_cons.mp hp with rfl | hp
        · exact hx
        · exact fun z => h3 p hp (by rw [List.map_append]; exact List.mem_append_left _ z)
      · rw [List.map_cons, List.nodup_cons]
        refine ⟨fun z => ?_, h4⟩
        obtain ⟨p, hp, e2⟩ := List.mem_map.mp z
        exact h3 p hp (by rw [e2]; simp)
theorem bfsFold_all {d : Int} : ∀ (xs : List Int) (L : List (Int × Int)), ∀ x ∈ xs, x ∈ (xs.foldl (bfsAdd d) L).map (·.1)
  | y :: xs, L, x, hx => by
    rcases List.mem_cons.mp hx with rfl | hx
    · have : x ∈ (bfsAdd d L x).map (·.1) := by
        unfold bfsAdd
        split
        · assumption
        · simp
      obtain ⟨p, hp, e⟩ := List.mem_map.mp this
      exact List.mem_map.mpr ⟨p, bfsFold_sub xs _ p hp, e⟩
    · exact bfsFold_all xs _ x hx
theorem Bfs.step {ds : Doors} {r : Int} {L : List (Int × Int)} {k : Nat} {h : Int × Int} (ok : DOk ds) (I : Bfs ds r L k) (e : L[k]? = some h) : Bfs ds r ((bes ds h.1).foldl (bfsAdd (h.2 + 1)) L) (k + 1) := by
  obtain ⟨M, h1, h2, h3, h4⟩ := bfsFold_pre (d := h.2 + 1) (bes ds h.1) L
  have hall := bfsFold_all (d := h.2 + 1) (bes ds h.1) L
  rw [h1] at hall ⊢
  have hk : k < L.length := (List.getElem?_eq_some_iff.mp e).1
  have hm : h ∈ L := List.mem_of_getElem? e
  have hd : h ∈ L.drop k := by
    rw [List.drop_eq_getElem_cons hk]
    have : L[k] = h := (List.getElem?_eq_some_iff.mp e).2
    rw [this]
    exact List.mem_cons_self
  have hle : ∀ q ∈ L, q.2 ≤ h.2 + 1 := I.last h hd
  have hge : ∀ q ∈ L.drop k, h.2 ≤ q.2 := by
    intro q hq
    rw [List.drop_eq_getElem_cons hk] at hq
    have e2 : L[k] = h := (List.getElem?_eq_some_iff.mp e).2
    rw [e2] at hq
    rcases List.mem_cons.mp hq with rfl | hq
    · exact Int.le_refl _
    · have hp := I.mono
      have hp2 := List.Pairwise.sublist (List.drop_sublist k L) hp
      rw [List.drop_eq_getElem_cons hk, e2] at hp2
      exact (List.pairwise_cons.mp hp2).1 q hq
  have hix := I.ix k h e
  refine ⟨?_, fun p hp => ?_, List.mem_append_left _ I.hd, fun p hp => ?_, ?_, fun p hp q hq => ?_, fun p hp y hy => ?_, ?_, fun i p ei => ?_⟩
  · rw [List.map_append, List.nodup_append]
    refine ⟨I.nd, h4, fun a ha b hb => ?_⟩
    rintro rfl
    obtain ⟨p, hp, rfl⟩ := List.mem_map.mp hb
    exact h3 p hp ha
  · rcases List.mem_append.mp hp with hp | hp
    · exact I.rng p hp
    · exact ok.adj_bd (mem_bes.mp (h2 p hp).1)
  · rcases List.mem_append.mp hp with hp | hp
    · exact I.wk p hp
    · obtain ⟨n, e1, w⟩ := I.wk h hm
      refine ⟨n + 1, by rw [(h2 p hp).2, e1]; simp, h.1, w, mem_bes.mp (h2 p hp).1⟩
  · rw [List.pairwise_append]
    refine ⟨I.mono, ?_, fun a ha b hb => by rw [(h2 b hb).2]; exact hle a ha⟩
    exact List.Pairwise.imp_of_mem (R := fun _ _ => True) (fun {a b} ha hb _ => by rw [(h2 a ha).2, (h2 b hb).2]; exact Int.le_refl _) (List.pairwise_of_forall fun _ _ => trivial)
  · have hq2 : q.2 ≤ h.2 + 1 := by
      rcases List.mem_append.mp hq with hq | hq
      · exact hle q hq
      · rw [(h2 q hq).2]; exact Int.le_refl _
    have hp2 : h.2 ≤ p.2 := by
      rw [List.drop_append_of_le_length (by omega)] at hp
      rcases List.mem_append.mp hp with hp | hp
      · refine hge p ?_
        rw [List.drop_eq_getElem_cons hk]
        exact List.mem_cons_of_mem _ hp
      · rw [(h2 p hp).2]; omega
    omega
  · rw [List.take_append_of_le_length (by omega), List.take_add_one, e] at hp
    rcases List.mem_append.mp hp with hp | hp
    · obtain ⟨q, hq, e1, e2⟩ := I.done p hp y hy
      exact ⟨q, List.mem_append_left _ hq, e1, e2⟩
    · have : p = h := by simpa using hp
      subst this
      obtain ⟨q, hq, e1⟩ := List.mem_map.mp (hall y (mem_bes.mpr hy))
      refine ⟨q, hq, e1, ?_⟩
      rcases List.mem_append.mp hq with hq | hq
      · exact hle q hq
      · rw [(h2 q hq).2]; exact Int.le_refl _
  · simp; omega
  · by_cases hi : i < L.length
    · rw [List.getElem?_append_left hi] at ei
      exact I.ix i p ei
    · have hm := List.mem_of_getElem? ei
      rw [List.getElem?_append_right (by omega)] at ei
      rw [(h2 p (List.mem_of_getElem? ei)).2]
      omega
/-- at most ten are found -/
theorem Bfs.ten {ds : Doors} {r : Int} {L : List (Int × Int)} {k : Nat} (I : Bfs ds r L k) : L.length ≤ 10 := by
  have h1 : ((L.map (·.1)).map Int.toNat).Nodup := by
    rw [List.nodup_iff_pairwise_ne, List.pairwise_map]
    have := I.nd
    rw [List.nodup_iff_pairwise_ne] at this
    refine List.Pairwise.imp_of_mem (fun {a b} ha hb hne z => hne ?_) this
    obtain ⟨p, hp, rfl⟩ := List.mem_map.mp ha
    obtain ⟨q, hq, rfl⟩ := List.mem_map.mp hb
    have := I.rng p hp
    have := I.rng q hq
    omega
  have := L2.nat_nodup_len _ (List.range 10) h1 fun x hx => by
    obtain ⟨y, hy, rfl⟩ := List.mem_map.mp hx
    obtain ⟨p, hp, rfl⟩ := List.mem_map.mp hy
    have := I.rng p hp
    rw [List.mem_range]
    omega
  simpa using this
/-- all is found: how far -/
theorem Bfs.dst {ds : Doors} {r : Int} {L : List (Int × Int)} (I : Bfs ds r L L.length) {p : Int × Int} (hp : p ∈ L) : ∃ n : Nat, p.2 = n ∧ n ≤ 9 ∧ Dst ds r p.1 n := by
  have key : ∀ (m : Nat) (x : Int), walk ds m r x → ∃ q ∈ L, q.1 = x ∧ q.2 ≤ m := by
    intro m
    induction m with
    | zero =>
      intro x w
      cases w
      exact ⟨_, I.hd, rfl, Int.le_refl _⟩
    | succ m ih =>
      intro x w
      obtain ⟨c, w1, w2⟩ := w
      obtain ⟨q, hq, e1, e2⟩ := ih c w1
      subst e1
      obtain ⟨q', hq', e3, e4⟩ := I.done q (by rw [List.take_length]; exact hq) x w2
      exact ⟨q', hq', e3, by omega⟩
  obtain ⟨n, e, w⟩ := I.wk p hp
  refine ⟨n, e, ?_, w, fun m w' => ?_⟩
  · obtain ⟨i, hi⟩ := List.getElem?_of_mem hp
    have h1 := I.ix i p hi
    have h2 := (List.getElem?_eq_some_iff.mp hi).1
    have h3 := I.ten
    omega
  · obtain ⟨q, hq, e1, e2⟩ := key m p.1 w'
    have : q = p := by
      obtain ⟨i, hi⟩ := List.getElem?_of_mem hq
      obtain ⟨j, hj⟩ := List.getElem?_of_mem hp
      have hi' : (L.map (·.1))[i]? = some q.1 := by rw [List.getElem?_map, hi]; rfl
      have hj' : (L.map (·.1))[j]? = some q.1 := by rw [List.getElem?_map, hj, e1]; rfl
      have hij := (List.getElem?_inj (List.getElem?_eq_some_iff.mp hi').1 I.nd).mp (hi'.trans hj'.symm)
      subst hij
      rw [hi] at hj
      exact Option.some.inj hj
    subst this
    omega
theorem Bfs.found {ds : Doors} {r : Int} {L : List (Int × Int)} (I : Bfs ds r L L.length) {x : Int} {n : Nat} (h : Dst ds r x n) : (x, (n : Int)) ∈ L := by
  have key : ∀ (m : Nat) (x : Int), walk ds m r x → ∃ q ∈ L, q.1 = x := by
    intro m
    induction m with
    | zero =>
      intro x w
      cases w
      exact ⟨_, I.hd, rfl⟩
    | succ m ih =>
      intro x w
      obtain ⟨c, w1, w2⟩ := w
      obtain ⟨q, hq, e1⟩ := ih c w1
      subst e1
      obtain ⟨q', hq', e3, e4⟩ := I.done q (by rw [List.take_length]; exact hq) x w2
      exact ⟨q', hq', e3⟩
  obtain ⟨q, hq, rfl⟩ := key n x h.1
  obtain ⟨m, e, _, d⟩ := I.dst hq
  have := d.uniq h
  subst this
  rw [← e]
  exact hq
/-! ### how far each room is -/
open Classical in
noncomputable def farO (ds : Doors) (r x : Int) : Option Nat := if h : ∃ n, Dst ds r x n then some (Classical.choose h) else none
theorem farO_some {ds : Doors} {r x : Int} {n : Nat} : farO ds r x = some n ↔ Dst ds r x n := by
  unfold farO
  constructor
  · intro h
    split at h
    · rename_i hx
      cases h
      exact Classical.choose_spec hx
    · cases h
  · intro h
    have hx : ∃ n, Dst ds r x n := ⟨n, h⟩
    rw [dif_pos hx, (Classical.choose_spec hx).uniq h]
noncomputable def dl (ds : Doors) (r : Int) : List (Int × Int) := (List.range 10).filterMap fun (i : Nat) => (farO ds r i).map fun (n : Nat) => ((i : Int), (n : Int))
theorem mem_dl {ds : Doors} {r x n : Int} : (x, n) ∈ dl ds r ↔ (0 ≤ x ∧ x ≤ 9) ∧ ∃ m : Nat, n = m ∧ Dst ds r x m := by
  unfold dl
  simp only [List.mem_filterMap, List.mem_range, Option.map_eq_some_iff, Prod.mk.injEq]
  constructor
  · rintro ⟨i, hi, m, hm, rfl, rfl⟩
    exact ⟨by omega, m, rfl, farO_some.mp hm⟩
  · rintro ⟨hx, m, rfl, hd⟩
    refine ⟨x.toNat, by omega, m, farO_some.mpr ?_, by omega, rfl⟩
    have : ((x.toNat : Nat) : Int) = x := by omega
    rw [this]
    exact hd
theorem dl_up (ds : Doors) (r : Int) : (dl ds r).Pairwise fun p q => p.1 < q.1 := by
  unfold dl
  rw [List.pairwise_filterMap]
  refine List.Pairwise.imp ?_ List.pairwise_lt_range
  intro i j hij a ha b hb
  obtain ⟨n, _, rfl⟩ := Option.map_eq_some_iff.mp ha
  obtain ⟨m, _, rfl⟩ := Option.map_eq_some_iff.mp hb
  show (i : Int) < j
  omega
theorem up_uniq {A B : List (Int × Int)} (ha : A.Pairwise fun p q => p.1 < q.1) (hb : B.Pairwise fun p q => p.1 < q.1) (h : ∀ p, p ∈ A ↔ p ∈ B) : A = B := by
  have nd : ∀ {C : List (Int × Int)}, (C.Pairwise fun p q => p.1 < q.1) → C.Nodup := fun hc => by
    rw [List.nodup_iff_pairwise_ne]
    exact hc.imp fun {p q} hpq e => by subst e; omega
  exact List.Perm.eq_of_pairwise (le := fun p q => p.1 < q.1) (fun a b _ _ x y => by omega) ha hb ((List.perm_ext_iff_of_nodup (nd ha) (nd hb)).mpr h)
end NT
/-! runs that may raise; locked dicts walked; instances -/
namespace NT
open PySem
/-- it ends well in Q, or raises in Xc -/
def R.TX {A : Type} (r : R A) (Q : A → Sto → Prop) (Xc : Nat → Sto → Prop) : Prop := match r with
  | .ok a S => Q a S
  | .exc c S => Xc c S
  | .stuck => False
def RS.TX (r : RS) (Q : Fl → Sto → Prop) (Xc : Nat → Sto → Prop) : Prop := match r with
  | .ok f S => Q f S
  | .exc c _ S => Xc c S
  | .stuck => False
section
variable {A : Type} {S : Sto} {ρ : Env}
@[simp] theorem TX_ok {a : A} {Q : A → Sto → Prop} {Xc : Nat → Sto → Prop} : (R.ok a S).TX Q Xc ↔ Q a S := Iff.rfl
@[simp] theorem TX_exc {c : Nat} {Q : A → Sto → Prop} {Xc : Nat → Sto → Prop} : (R.exc c S : R A).TX Q Xc ↔ Xc c S := Iff.rfl
@[simp] theorem TXs_ok {f : Fl} {Q : Fl → Sto → Prop} {Xc : Nat → Sto → Prop} : (RS.ok f S).TX Q Xc ↔ Q f S := Iff.rfl
@[simp] theorem TXs_exc {c : Nat} {Q : Fl → Sto → Prop} {Xc : Nat → Sto → Prop} : (RS.exc c ρ S).TX Q Xc ↔ Xc c S := Iff.rfl
theorem R.TX.mono {r : R A} {Q Q' : A → Sto → Prop} {Xc Xc' : Nat → Sto → Prop} (h : r.TX Q Xc) (k : ∀ a S, Q a S → Q' a S) (k' : ∀ c S, Xc c S → Xc' c S) : r.TX Q' Xc' := by
  cases r with
  | ok a S => exact k a S h
  | exc c S => exact k' c S h
  | stuck => exact h
theorem RS.TX.mono {r : RS} {Q Q' : Fl → Sto → Prop} {Xc Xc' : Nat → Sto → Prop} (h : r.TX Q Xc) (k : ∀ a S, Q a S → Q' a S) (k' : ∀ c S, Xc c S → Xc' c S) : r.TX Q' Xc' := by
  cases r with
  | ok a S => exact k a S h
  | exc c ρ S => exact k' c S h
  | stuck => exact h
theorem R.TX.bind {B : Type} {r : R A} {k : A → Sto → R B} {Q : B → Sto → Prop} {Xc : Nat → Sto → Prop} (h : r.TX (fun a S => (k a S).TX Q Xc) Xc) : (r.bind k).TX Q Xc := by
  cases r with
  | ok a S => exact h
  | exc c S => exact h
  | stuck => exact h
theorem R.To.tx {r : R A} {Q : A → Sto → Prop} {Xc : Nat → Sto → Prop} (h : r.To Q) : r.TX Q Xc := by
  obtain ⟨a, S, rfl, h⟩ := h
  exact h
theorem RS.To.tx {r : RS} {Q : Fl → Sto → Prop} {Xc : Nat → Sto → Prop} (h : r.To Q) : r.TX Q Xc := by
  obtain ⟨f, S, rfl, h⟩ := h
  exact h
theorem R.TX.to {r : R A} {Q : A → Sto → Prop} (h : r.TX Q fun _ _ => False) : r.To Q := by
  cases r with
  | ok a S => exact ⟨a, S, rfl, h⟩
  | exc c S => exact h.elim
  | stuck => exact h.elim
theorem RS.TX.to {r : RS} {Q : Fl → Sto → Prop} (h : r.TX Q fun _ _ => False) : r.To Q := by
  cases r with
  | ok a S => exact ⟨a, S, rfl, h⟩
  | exc c ρ S => exact h.elim
  | stuck => exact h.elim
theorem R.TX.iff {r : R A} {Q : A → Sto → Prop} : r.TX Q (fun _ _ => False) ↔ r.To Q := ⟨R.TX.to, R.To.tx⟩
theorem callR_TX {r : RS} {Q : D → Sto → Prop} {Xc : Nat → Sto → Prop} (h : r.TX (fun f S => match f with | .nx _ => Q .non S | .rt d => Q d S | _ => False) Xc) : (callR r).TX Q Xc := by
  cases r with
  | ok f S =>
    cases f with
    | nx ρ => exact h
    | rt d => exact h
    | bk ρ => exact h.elim
    | ct ρ => exact h.elim
  | exc c ρ S => exact h
  | stuck => exact h.elim
end
section
variable {cf : Nat → List D → Sto → R D} {wf : Nat} {S : Sto} {ρ : Env} {Q : Fl → Sto → Prop} {Xc : Nat → Sto → Prop} {r : Sts}
theorem tx_nil (h : Q (.nx ρ) S) : (exs cf wf .nil ρ S).TX Q Xc := by
  rw [xs_nil]
  exact h
theorem seq_tx {x : RS} {k : Env → Sto → RS} (h : x.TX (fun f S' => match f with | .nx ρ' => (k ρ' S').TX Q Xc | f => Q f S') Xc) : (x.seq k).TX Q Xc := by
  cases x with
  | ok f S => cases f <;> exact h
  | exc c ρ S => exact h
  | stuck => exact h
theorem thn_tx {A : Type} {x : R A} {k : A → Sto → RS} (h : x.TX (fun a S' => (k a S').TX Q Xc) Xc) : (x.thn ρ k).TX Q Xc := by
  cases x with
  | ok f S => exact h
  | exc c S => exact h
  | stuck => exact h
theorem tx_asg {p : Pat} {e : E} {Xc : Nat → Sto → Prop} (h : ((ev2 cf e).1 ρ S).TX (fun d S1 => ∃ ρ', p.bnd d ρ = some ρ' ∧ (exs cf wf r ρ' S1).TX Q Xc) Xc) : (exs cf wf (.cons (.asg p e) r) ρ S).TX Q Xc := by
  rw [xs_cons, x1_asg]
  refine seq_tx (thn_tx (h.mono (fun d S1 hd => ?_) fun _ _ z => z))
  obtain ⟨ρ', e1, h1⟩ := hd
  rw [e1]
  exact h1
theorem tx_nm {i : Nat} {e : E} {Xc : Nat → Sto → Prop} (h : ((ev2 cf e).1 ρ S).TX (fun d S1 => (exs cf wf r (ρ.set i (some d)) S1).TX Q Xc) Xc) : (exs cf wf (.cons (.asg (.nm i) e) r) ρ S).TX Q Xc :=
  tx_asg (h.mono (fun d S1 h => ⟨_, rfl, h⟩) fun _ _ z => z)
theorem tx_exp {e : E} {Xc : Nat → Sto → Prop} (h : ((ev2 cf e).1 ρ S).TX (fun _ S1 => (exs cf wf r ρ S1).TX Q Xc) Xc) : (exs cf wf (.cons (.exp e) r) ρ S).TX Q Xc := by
  rw [xs_cons, x1_exp]
  exact seq_tx (thn_tx h)
theorem tx_ret {e : E} {Xc : Nat → Sto → Prop} (h : ((ev2 cf e).1 ρ S).TX (fun d S1 => Q (.rt d) S1) Xc) : (exs cf wf (.cons (.ret e) r) ρ S).TX Q Xc := by
  rw [xs_cons, x1_ret]
  exact seq_tx (thn_tx h)
theorem tx_retN (h : Q (.rt .non) S) : (exs cf wf (.cons .retN r) ρ S).TX Q Xc := by
  rw [xs_cons, x1_retN]
  exact h
theorem tx_raise {c : Nat} (h : Xc c S) : (exs cf wf (.cons (.raise_ c) r) ρ S).TX Q Xc := by
  rw [xs_cons, x1_raise_]
  exact h
theorem tx_ite {c : E} {a b : Sts} {Xc : Nat → Sto → Prop} (h : ((ev2 cf c).2 ρ S).TX (fun t S1 => (t = true → (exs cf wf (a.app r) ρ S1).TX Q Xc) ∧ (t = false → (exs cf wf (b.app r) ρ S1).TX Q Xc)) Xc) : (exs cf wf (.cons (.ite c a b) r) ρ S).TX Q Xc := by
  rw [xs_cons, x1_ite]
  have h' : ((ev2 cf c).2 ρ S).TX (fun t S1 => ((if t = true then exs cf wf a ρ S1 else exs cf wf b ρ S1).seq (exs cf wf r)).TX Q Xc) Xc := h.mono (fun t S1 ht => by
    cases t with
    | true =>
      have := ht.1 rfl
      rw [exs_app] at this
      exact this
    | false =>
      have := ht.2 rfl
      rw [exs_app] at this
      exact this) fun _ _ z => z
  show (((ev2 cf c).2 ρ S).thn ρ _ |>.seq _).TX Q Xc
  cases hx : (ev2 cf c).2 ρ S with
  | ok t S1 => rw [hx] at h'; exact h'
  | exc k S1 => rw [hx] at h'; exact h'
  | stuck => rw [hx] at h'; exact h'
theorem tx_setI {o k v : E} {Xc : Nat → Sto → Prop} (h : ((ev2 cf v).1 ρ S).TX (fun x S1 => ((ev2 cf o).1 ρ S1).TX (fun y S2 => ((ev2 cf k).1 ρ S2).TX (fun z S3 => ∃ S4, setS S3 y z x = some S4 ∧ (exs cf wf r ρ S4).TX Q Xc) Xc) Xc) Xc) : (exs cf wf (.cons (.setI o k v) r) ρ S).TX Q Xc := by
  rw [xs_cons, x1_setI]
  refine seq_tx (thn_tx (h.mono (fun x S1 h1 => thn_tx (h1.mono (fun y S2 h2 => thn_tx (h2.mono (fun z S3 h3 => ?_) fun _ _ z => z)) fun _ _ z => z)) fun _ _ z => z))
  obtain ⟨S4, e4, h4⟩ := h3
  rw [e4]
  exact h4
theorem tx_setF {o v : E} {c : Nat} {n : Str} {Xc : Nat → Sto → Prop} (h : ((ev2 cf v).1 ρ S).TX (fun x S1 => ((ev2 cf o).1 ρ S1).TX (fun y S2 => ∃ i fs, insOf S2 c y = some (i, fs) ∧ fs.length < 1000 ∧ (exs cf wf r ρ (S2.set i (.ins c (putFD n x fs)))).TX Q Xc) Xc) Xc) : (exs cf wf (.cons (.setF o c n v) r) ρ S).TX Q Xc := by
  rw [xs_cons, x1_setF]
  refine seq_tx (thn_tx (h.mono (fun x S1 h1 => thn_tx (h1.mono (fun y S2 h2 => ?_) fun _ _ z => z)) fun _ _ z => z))
  obtain ⟨i, fs, e4, hl, h4⟩ := h2
  rw [e4]
  simp only [hl, if_true]
  exact h4
theorem tx_for {p : Pat} {it : It} {b : Sts} {items : List D} {gs : Gs} {S1 : Sto} {Xc : Nat → Sto → Prop} (hi : evIt cf it ρ S = .ok (items, gs) S1) (I : List D → Env → Sto → Prop) (h0 : I items ρ S1) (hg : ∀ ds ρ S, I ds ρ S → gok gs S)
    (hs : ∀ d ds ρ S, I (d :: ds) ρ S → ∃ ρ2, p.bnd d ρ = some ρ2 ∧ (exs cf wf b ρ2 S).TX (fun f S' => match f with | .nx ρ' => I ds ρ' S' | .ct ρ' => I ds ρ' S' | .bk ρ' => (exs cf wf r ρ' S').TX Q Xc | .rt v => Q (.rt v) S') Xc)
    (he : ∀ ρ S, I [] ρ S → (exs cf wf r ρ S).TX Q Xc) : (exs cf wf (.cons (.for_ p it b) r) ρ S).TX Q Xc := by
  rw [xs_cons, x1_for_]
  show (((evIt cf it ρ S).thn ρ _).seq _).TX Q Xc
  rw [hi, rthn_ok]
  refine seq_tx ?_
  have go : ∀ (ds : List D) (ρ : Env) (S : Sto), I ds ρ S → (forD gs (fun d ρ1 S2 => match p.bnd d ρ1 with
    | some ρ2 => exs cf wf b ρ2 S2
    | none => .stuck) ds ρ S).TX (fun f S' => match f with | .nx ρ' => (exs cf wf r ρ' S').TX Q Xc | f => Q f S') Xc := by
    intro ds
    induction ds with
    | nil =>
      intro ρ S h
      rw [forD_nil_ok (hg _ _ _ h)]
      exact he _ _ h
    | cons d ds ih =>
      intro ρ S h
      rw [forD_cons, if_pos (hg _ _ _ h)]
      obtain ⟨ρ2, e, h1⟩ := hs d ds ρ S h
      simp only [e]
      cases hx : exs cf wf b ρ2 S with
      | stuck => rw [hx] at h1; exact h1
      | exc c ρ' S' => rw [hx] at h1; exact h1
      | ok f S' =>
        rw [hx] at h1
        cases f with
        | nx ρ' => exact ih _ _ h1
        | ct ρ' => exact ih _ _ h1
        | bk ρ' => exact h1
        | rt v => exact h1
  exact go items ρ S1 h0
/-- a try: what it raises and a clause names is caught -/
theorem to_try {es : List Nat} {b : Sts} {hs : List (Nat × Su)} (h : (exs cf wf b ρ S).To fun f S' => match f with | .nx ρ' => (exs cf wf r ρ' S').To Q | f => Q f S') : (exs cf wf (.cons (.try_ es b hs) r) ρ S).To Q := by
  rw [xs_cons, x1_try_]
  show ((tryRS es hs (exs cf wf b ρ S)).seq _).To Q
  obtain ⟨f, S', e, h⟩ := h
  rw [e]
  cases f with
  | nx ρ' => exact h
  | _ => exact .ok h
theorem to_catch {es : List Nat} {b : Sts} {hs : List (Nat × Su)} {c : Nat} {su : Su} {ρ1 : Env} {S1 : Sto} (e : exs cf wf b ρ S = .exc c ρ1 S1) (hc : c ∈ es) (hf : hs.find? (fun h => decide (h.1 = c)) = some (c, su))
    (h : (su.run ρ1 S1).To fun f S' => match f with | .nx ρ' => (exs cf wf r ρ' S').To Q | f => Q f S') : (exs cf wf (.cons (.try_ es b hs) r) ρ S).To Q := by
  rw [xs_cons, x1_try_]
  show ((tryRS es hs (exs cf wf b ρ S)).seq _).To Q
  rw [e]
  show ((if c ∈ es then (match hs.find? (fun h => decide (h.1 = c)) with | some h => h.2.run ρ1 S1 | none => .exc c ρ1 S1) else RS.stuck).seq _).To Q
  rw [if_pos hc, hf]
  obtain ⟨f, S', e, h⟩ := h
  show ((su.run ρ1 S1).seq _).To Q
  rw [e]
  cases f with
  | nx ρ' => exact h
  | _ => exact .ok h
/-- an assignment of a call that raises -/
theorem nm_exc {i : Nat} {e : E} {c : Nat} {S1 : Sto} (h : (ev2 cf e).1 ρ S = .exc c S1) : exs cf wf (.cons (.asg (.nm i) e) r) ρ S = .exc c ρ S1 := by
  rw [xs_cons, x1_asg]
  show (((ev2 cf e).1 ρ S).thn ρ _ |>.seq _) = _
  rw [h]
  rfl

/-! ### locked dicts -/
theorem to_lk {e : E} {s : NT.St} {i : Nat} {S0 : Sto} {kvs : List (L2.Key × D)} (he : (ev2 cf e).1 ρ S = .ok (.ref i) S0) (hc : S[i]? = some (.dK kvs))
    (h : (exs cf wf (.cons s .nil) ρ (S.set i (.frz (.dK kvs)))).To fun f S' => S'[i]? = some (.frz (.dK kvs)) ∧ match f with | .nx ρ' => (exs cf wf r ρ' (S'.set i (.dK kvs))).To Q | f => Q f (S'.set i (.dK kvs))) : (exs cf wf (.cons (.lk e s) r) ρ S).To Q := by
  rw [xs_cons, x1_lk]
  show ((lkRS ((ev2 cf e).1 ρ S) S (ex cf wf s ρ)).seq _).To Q
  have h1 : isLk S i = false := by unfold isLk; rw [hc]
  have h2 : lkd S i = some (S.set i (.frz (.dK kvs))) := by unfold lkd; rw [hc]
  obtain ⟨f, S', e1, e2, h3⟩ := h
  have e3 : ex cf wf s ρ (S.set i (.frz (.dK kvs))) = .ok f S' := by
    rw [xs_cons] at e1
    dsimp only at e1
    cases hx : ex cf wf s ρ (S.set i (.frz (.dK kvs))) with
    | stuck => rw [hx] at e1; cases e1
    | exc c ρ' S2 => rw [hx] at e1; cases e1
    | ok f2 S2 =>
      rw [hx] at e1
      cases f2 with
      | nx ρ' =>
        have e1' : exs cf wf .nil ρ' S2 = .ok f S' := e1
        rw [xs_nil] at e1'
        exact e1'
      | _ => exact e1
  have h4 : unlkd S' i = some (S'.set i (.dK kvs)) := by unfold unlkd; rw [e2]
  have e4 : lkRS ((ev2 cf e).1 ρ S) S (ex cf wf s ρ) = .ok f (S'.set i (.dK kvs)) := by
    rw [he]
    simp only [lkRS, h1, h2, e3, h4]
    rfl
  rw [e4]
  cases f with
  | nx ρ' => exact h3
  | _ => exact .ok h3
theorem to_lkd {e : E} {s : NT.St} {i : Nat} {S0 : Sto} {c : Cell} (he : (ev2 cf e).1 ρ S = .ok (.ref i) S0) (hc : S[i]? = some (.frz c)) (h : (exs cf wf (.cons s r) ρ S).To Q) : (exs cf wf (.cons (.lk e s) r) ρ S).To Q := by
  rw [xs_cons, x1_lk]
  show ((lkRS ((ev2 cf e).1 ρ S) S (ex cf wf s ρ)).seq _).To Q
  have h1 : isLk S i = true := by unfold isLk; rw [hc]
  have e4 : lkRS ((ev2 cf e).1 ρ S) S (ex cf wf s ρ) = ex cf wf s ρ S := by
    rw [he]
    simp only [lkRS, h1]
    rfl
  rw [e4]
  rw [xs_cons] at h
  exact h
/-- an expression that looks at a locked dict alone -/
theorem lkR_pure {i : Nat} {S0 : Sto} {kvs : List (L2.Key × D)} {m : Sto → R D} {d : D} (hc : S[i]? = some (.dK kvs)) (hm : m (S.set i (.frz (.dK kvs))) = .ok d (S.set i (.frz (.dK kvs)))) : lkR (.ok (.ref i) S0) S m = .ok d S := by
  have hl : i < S.length := (List.getElem?_eq_some_iff.mp hc).1
  have h1 : isLk S i = false := by unfold isLk; rw [hc]
  have h2 : lkd S i = some (S.set i (.frz (.dK kvs))) := by unfold lkd; rw [hc]
  have h4 : unlkd (S.set i (.frz (.dK kvs))) i = some S := by
    unfold unlkd
    rw [List.getElem?_set_self hl]
    show some ((S.set i _).set i _) = _
    rw [List.set_set]
    congr 1
    have e : S[i] = .dK kvs := (List.getElem?_eq_some_iff.mp hc).2
    rw [← e]
    exact List.set_getElem_self hl
  simp only [lkR, h1, h2, hm, h4]
  rfl
theorem lkR_lkd {i : Nat} {S0 : Sto} {c : Cell} {m : Sto → R D} (hc : S[i]? = some (.frz c)) : lkR (.ok (.ref i) S0) S m = m S := by
  have h1 : isLk S i = true := by unfold isLk; rw [hc]
  simp only [lkR, h1]
  rfl
theorem keysF_frz {i : Nat} {kvs : List (L2.Key × D)} (h : S[i]? = some (.frz (.dK kvs))) : keysF S (.ref i) = some (kvs.map fun kv => keyD kv.1) := by
  unfold keysF
  simp only [h]
theorem insOf_at {i c : Nat} {fs : List (Str × D)} (h : S[i]? = some (.ins c fs)) : insOf S c (.ref i) = some (i, fs) := by
  unfold insOf
  simp [h]
end
end NT
/-! what a run leaves alone; dicts by numbers; a teller, plainly -/
namespace NT
open PySem L2
/-- the cells of O may change, others stay; c draws -/
structure Fr (O : Nat → Prop) (c : Nat) (S S' : Sto) : Prop where
  len : S.length ≤ S'.length
  old : ∀ i, i ≠ 0 → ¬ O i → i < S.length → S'[i]? = S[i]?
  town : ∀ k, Tn (c + k) S → Tn k S'
section
variable {O O' : Nat → Prop} {c d : Nat} {S S' S'' : Sto}
theorem Fr.refl (O : Nat → Prop) (S : Sto) : Fr O 0 S S := ⟨Nat.le_refl _, fun _ _ _ _ => rfl, fun k h => h.mono (by omega)⟩
theorem Fr.trans (h : Fr O c S S') (h' : Fr O' d S' S'') (q : ∀ i, O' i → i < S.length → O i) : Fr O (c + d) S S'' :=
  ⟨Nat.le_trans h.len h'.len, fun i h0 ho hi => (h'.old i h0 (fun z => ho (q i z hi)) (Nat.lt_of_lt_of_le hi h.len)).trans (h.old i h0 ho hi), fun k t => h'.town k (h.town (d + k) (t.mono (by omega)))⟩
theorem Fr.mono (h : Fr O c S S') (q : c ≤ d) : Fr O d S S' := ⟨h.len, h.old, fun k t => h.town k (t.mono (by omega))⟩
theorem Fr.sub (h : Fr O c S S') (q : ∀ i, O i → i < S.length → O' i) : Fr O' c S S' := ⟨h.len, fun i h0 ho hi => h.old i h0 (fun z => ho (q i z hi)) hi, h.town⟩
theorem Go.fr (h : Go c S S') : Fr O c S S' := ⟨h.len, fun i h0 _ hi => h.old i h0 hi, h.town⟩
theorem Fr.go (h : Fr (fun _ => False) c S S') : Go c S S' := ⟨h.len, fun i h0 hi => h.old i h0 id hi, h.town⟩
theorem Fr.set (h : Fr O c S S') {i : Nat} (x : Cell) (q : O i ∨ S.length ≤ i) (h0 : i ≠ 0) : Fr O c S (S'.set i x) := by
  refine ⟨by simpa using h.len, fun j hj ho hl => ?_, fun l t => ?_⟩
  · rw [List.getElem?_set_ne]
    · exact h.old j hj ho hl
    · rintro rfl
      rcases q with q | q
      · exact ho q
      · omega
  · obtain ⟨zs, e, q⟩ := h.town l t
    exact ⟨zs, by rw [List.getElem?_set_ne h0]; exact e, q⟩
theorem Fr.pos (h : Fr O c S S') (q : 0 < S.length) : 0 < S'.length := Nat.lt_of_lt_of_le q h.len
theorem Fr.push (h : Fr O c S S') (x : Cell) (q : 0 < S.length) : Fr O c S (S' ++ [x]) := by
  have := h.len
  refine ⟨by simp; omega, fun j hj ho hl => ?_, fun l t => ?_⟩
  · rw [List.getElem?_append_left (by omega)]
    exact h.old j hj ho hl
  · obtain ⟨zs, e, z⟩ := h.town l t
    exact ⟨zs, by rw [List.getElem?_append_left (by omega)]; exact e, z⟩
theorem Fr.app (h : Fr O c S S') (M : List Cell) (q : 0 < S.length) : Fr O c S (S' ++ M) := by
  have := h.len
  refine ⟨by simp; omega, fun j hj ho hl => ?_, fun l t => ?_⟩
  · rw [List.getElem?_append_left (by omega)]
    exact h.old j hj ho hl
  · obtain ⟨zs, e, z⟩ := h.town l t
    exact ⟨zs, by rw [List.getElem?_append_left (by omega)]; exact e, z⟩
theorem Fr.at (h : Fr O c S S') {i : Nat} {x : Cell} (h0 : i ≠ 0) (ho : ¬ O i) (e : S[i]? = some x) : S'[i]? = some x := by
  rw [h.old i h0 ho (List.getElem?_eq_some_iff.mp e).1]
  exact e
theorem Fr.none_set {i : Nat} (x : Cell) (q : O i) (h0 : i ≠ 0) : Fr O 0 S (S.set i x) := (Fr.refl O S).set x (.inl q) h0
end
theorem set_at {S : Sto} {i : Nat} {x y : Cell} (e : S[i]? = some y) : (S.set i x)[i]? = some x := by
  rw [List.getElem?_set_self (List.getElem?_eq_some_iff.mp e).1]
theorem push_old {S : Sto} {i : Nat} {x y : Cell} (e : S[i]? = some y) : (S ++ [x])[i]? = some y := by
  rw [List.getElem?_append_left (List.getElem?_eq_some_iff.mp e).1]
  exact e

/-! ### rising lists of numbers -/
abbrev Up (ids : List Int) : Prop := ids.Pairwise (· < ·)
theorem Up.nodup {ids : List Int} (h : Up ids) : ids.Nodup := by
  rw [List.nodup_iff_pairwise_ne]
  exact h.imp fun a => by omega
theorem Up.uniq {a b : List Int} (ha : Up a) (hb : Up b) (h : ∀ m, m ∈ a ↔ m ∈ b) : a = b :=
  List.Perm.eq_of_pairwise (le := fun p q => p < q) (fun a b _ _ x y => by omega) ha hb ((List.perm_ext_iff_of_nodup ha.nodup hb.nodup).mpr h)
def srt (l : List Int) : List Int := l.mergeSort fun a b => decide (a ≤ b)
theorem mem_srt {l : List Int} {m : Int} : m ∈ srt l ↔ m ∈ l := by
  unfold srt
  rw [List.mem_mergeSort]
theorem up_srt {l : List Int} (h : l.Nodup) : Up (srt l) := by
  have h1 : (srt l).Pairwise fun a b => decide (a ≤ b) = true := List.pairwise_mergeSort (by intro a b c; simp; omega) (by intro a b; simp; omega) _
  have h2 : (srt l).Nodup := (List.mergeSort_perm _ _).nodup_iff.mpr h
  rw [List.nodup_iff_pairwise_ne] at h2
  refine (h1.and h2).imp fun {a b} ⟨x, y⟩ => ?_
  have x' : a ≤ b := by simpa using x
  omega
theorem srt_perm {l ids : List Int} (h : l.Perm ids) (u : Up ids) : srt l = ids :=
  (up_srt (h.nodup_iff.mpr u.nodup)).uniq u fun m => by rw [mem_srt, h.mem_iff]
def addS (n : Int) (ids : List Int) : List Int := if n ∈ ids then ids else srt (n :: ids)
def remS (n : Int) (ids : List Int) : List Int := ids.filter fun m => decide (m ≠ n)
theorem mem_addS {n m : Int} {ids : List Int} : m ∈ addS n ids ↔ m = n ∨ m ∈ ids := by
  unfold addS
  split
  · constructor
    · exact .inr
    · rintro (rfl | h)
      · assumption
      · exact h
  · rw [mem_srt, List.mem_cons]
theorem mem_remS {n m : Int} {ids : List Int} : m ∈ remS n ids ↔ m ∈ ids ∧ m ≠ n := by simp [remS]
theorem Up.add {n : Int} {ids : List Int} (h : Up ids) : Up (addS n ids) := by
  unfold addS
  split
  · exact h
  · exact up_srt (List.nodup_cons.mpr ⟨by assumption, h.nodup⟩)
theorem Up.rem {n : Int} {ids : List Int} (h : Up ids) : Up (remS n ids) := List.Pairwise.filter _ h
theorem Up.filter {ids : List Int} (h : Up ids) (f : Int → Bool) : Up (ids.filter f) := List.Pairwise.filter _ h
theorem addS_in {n : Int} {ids : List Int} (h : n ∈ ids) : addS n ids = ids := if_pos h
theorem addS_len {n : Int} {ids : List Int} : (addS n ids).length ≤ ids.length + 1 := by
  unfold addS
  split
  · omega
  · unfold srt
    rw [List.length_mergeSort]
    simp
theorem remS_len {n : Int} {ids : List Int} : (remS n ids).length ≤ ids.length := List.length_filter_le _ _
def updF {A : Type} (v : Int → A) (n : Int) (x : A) : Int → A := fun m => if m = n then x else v m
@[simp] theorem updF_self {A : Type} {v : Int → A} {n : Int} {x : A} : updF v n x n = x := if_pos rfl
theorem updF_ne {A : Type} {v : Int → A} {n m : Int} {x : A} (h : m ≠ n) : updF v n x m = v m := if_neg h

/-! ### dicts by numbers -/
def dk (v : Int → D) (l : List Int) : List (Key × D) := l.map fun n => (.inl n, v n)
def DK (S : Sto) (a : Nat) (ids : List Int) (v : Int → D) : Prop := ∃ l : List Int, S[a]? = some (.dK (dk v l)) ∧ l.Perm ids
theorem dk_congr {v v' : Int → D} {l : List Int} (h : ∀ n ∈ l, v n = v' n) : dk v l = dk v' l := List.map_congr_left fun n hn => by rw [h n hn]
theorem look_dk (v : Int → D) (l : List Int) (n : Int) : look (dk v l) (.inl n) = if n ∈ l then some (v n) else none := by
  unfold look dk
  induction l with
  | nil => rfl
  | cons m l ih =>
    rw [List.map_cons, List.find?_cons]
    by_cases e : m = n
    · subst e
      simp
    · have e1 : decide ((Sum.inl m : Key) = Sum.inl n) = false := by simp [e]
      simp only [e1]
      rw [ih]
      have : (n ∈ m :: l) ↔ n ∈ l := by
        rw [List.mem_cons]
        exact ⟨fun h => h.elim (fun z => absurd z.symm e) id, .inr⟩
      by_cases h : n ∈ l
      · rw [if_pos h, if_pos (this.mpr h)]
      · rw [if_neg h, if_neg fun z => h (this.mp z)]
theorem any_dk (v : Int → D) (l : List Int) (n : Int) : ((dk v l).any fun kv => decide (kv.1 = .inl n)) = decide (n ∈ l) := by
  unfold dk
  rw [List.any_map]
  rw [Bool.eq_iff_iff]
  simp only [List.any_eq_true, Function.comp_apply, decide_eq_true_eq]
  constructor
  · rintro ⟨m, hm, e⟩
    cases e
    exact hm
  · exact fun h => ⟨n, h, rfl⟩
theorem putD_dk_in {v : Int → D} {l : List Int} {n : Int} (x : D) (h : n ∈ l) : putD (dk v l) (.inl n) x = dk (updF v n x) l := by
  unfold putD
  rw [any_dk, if_pos (by simpa using h)]
  unfold dk
  rw [List.map_map]
  refine List.map_congr_left fun m _ => ?_
  simp only [Function.comp_apply, updF]
  by_cases e : m = n
  · subst e
    simp
  · have : ¬ ((Sum.inl m : Key) = Sum.inl n) := fun z => e (by cases z; rfl)
    rw [if_neg this, if_neg e]
theorem putD_dk_new {v : Int → D} {l : List Int} {n : Int} (x : D) (h : n ∉ l) : putD (dk v l) (.inl n) x = dk (updF v n x) (l ++ [n]) := by
  unfold putD
  rw [any_dk, if_neg (by simpa using h)]
  unfold dk
  rw [List.map_append]
  congr 1
  · refine List.map_congr_left fun m hm => ?_
    rw [updF_ne]
    rintro rfl
    exact h hm
  · simp
theorem dropD_dk (v : Int → D) (l : List Int) (n : Int) : dropD (dk v l) (.inl n) = dk v (remS n l) := by
  unfold dropD dk remS
  rw [List.filter_map]
  congr 1
  refine List.filter_congr fun m _ => ?_
  simp only [Function.comp_apply]
  rw [decide_eq_decide]
  exact ⟨fun h z => h (by rw [z]), fun h z => h (by cases z; rfl)⟩
theorem dk_len (v : Int → D) (l : List Int) : (dk v l).length = l.length := by simp [dk]
section
variable {S S' : Sto} {a : Nat} {ids : List Int} {v : Int → D} {n : Int}
theorem DK.lt (h : DK S a ids v) : a < S.length := by
  obtain ⟨l, e, _⟩ := h
  exact (List.getElem?_eq_some_iff.mp e).1
theorem DK.of (h : DK S a ids v) (e : S'[a]? = S[a]?) : DK S' a ids v := by
  obtain ⟨l, e1, p⟩ := h
  exact ⟨l, e.trans e1, p⟩
theorem DK.congr {v' : Int → D} (h : DK S a ids v) (q : ∀ n ∈ ids, v n = v' n) : DK S a ids v' := by
  obtain ⟨l, e1, p⟩ := h
  exact ⟨l, by rw [e1, dk_congr fun n hn => q n (p.mem_iff.mp hn)], p⟩
theorem DK.new : DK (S ++ [.dK []]) S.length [] v := ⟨[], by simp [dk], .nil⟩
theorem DK.dget (h : DK S a ids v) (n : Int) : dGet S (.ref a) (.int n) = some (if n ∈ ids then some (v n) else none) := by
  obtain ⟨l, e, p⟩ := h
  have : (n ∈ ids) ↔ n ∈ l := p.mem_iff.symm
  simp [dGet, e, keyOf, look_dk, this]
theorem DK.in (h : DK S a ids v) (n : Int) {g : Bool → Bool} : inG g S [.int n, .ref a] = some (.bl (g (decide (n ∈ ids))), S) := by
  have : inB S (.int n) (.ref a) = some (decide (n ∈ ids)) := by
    unfold inB
    rw [h.dget n]
    by_cases q : n ∈ ids <;> simp [q]
  simp [inG, this]
theorem DK.idx (h : DK S a ids v) {n : Int} (hn : n ∈ ids) : idxD S [.ref a, .int n] = some (v n, S) := by
  simp [idxD, h.dget n, hn]
theorem DK.get1 (h : DK S a ids v) (n : Int) : dgetD S [.ref a, .int n] = some ((if n ∈ ids then v n else .non), S) := by
  by_cases q : n ∈ ids <;> simp [dgetD, h.dget n, q]
theorem DK.get2 (h : DK S a ids v) (n : Int) (x : D) : dgetD S [.ref a, .int n, x] = some ((if n ∈ ids then v n else x), S) := by
  by_cases q : n ∈ ids <;> simp [dgetD, h.dget n, q]
theorem DK.ok (h : DK S a ids v) : Mth.ok .dget S (.ref a) = true ∧ Mth.ok .dpop S (.ref a) = true ∧ Mth.ok .setdef S (.ref a) = true := by
  obtain ⟨l, e, p⟩ := h
  simp [Mth.ok, e]
theorem DK.sorted (h : DK S a ids v) (u : Up ids) (hl : ids.length ≤ 16777216) : sortedD S [.ref a] = some (.lst (ids.map .int), S) := by
  obtain ⟨l, e, p⟩ := h
  have hi : itemsOf S (.ref a) = some (l.map .int) := by
    simp [itemsOf, asSeq, e, dictKeys, dk, keyD, Function.comp_def]
  rw [sortedD_int hi (by rw [p.length_eq]; simpa using hl)]
  have := srt_perm p u
  unfold srt at this
  rw [this]
theorem DK.put {l : List Int} (e : S[a]? = some (.dK (dk v l))) (p : l.Perm ids) (n : Int) (x : D) : DK (S.set a (.dK (putD (dk v l) (.inl n) x))) a (addS n ids) (updF v n x) := by
  by_cases hn : n ∈ ids
  · refine ⟨l, ?_, ?_⟩
    · rw [set_at e, putD_dk_in x (p.mem_iff.mpr hn)]
    · rw [addS_in hn]; exact p
  · refine ⟨l ++ [n], ?_, ?_⟩
    · rw [set_at e, putD_dk_new x fun z => hn (p.mem_iff.mp z)]
    · unfold addS
      rw [if_neg hn]
      exact (List.perm_append_comm.trans (List.Perm.cons n p)).trans (List.mergeSort_perm _ _).symm
theorem DK.set (h : DK S a ids v) (hl : ids.length < 16777216) (n : Int) (x : D) : ∃ c, setS S (.ref a) (.int n) x = some (S.set a c) ∧ DK (S.set a c) a (addS n ids) (updF v n x) := by
  obtain ⟨l, e, p⟩ := h
  have hz : (dk v l).length < sizeLine := by rw [dk_len, p.length_eq]; simpa using hl
  refine ⟨.dK (putD (dk v l) (.inl n) x), ?_, DK.put e p n x⟩
  unfold setS
  simp only [e, keyOf, hz, if_true]
theorem DK.pop (h : DK S a ids v) {n : Int} (hn : n ∈ ids) : ∃ c, dpopD S [.ref a, .int n] = some (v n, S.set a c) ∧ (∀ x, dpopD S [.ref a, .int n, x] = some (v n, S.set a c)) ∧ DK (S.set a c) a (remS n ids) v := by
  obtain ⟨l, e, p⟩ := h
  have hc : cellK S a = some (dk v l) := by unfold cellK; rw [e]
  have hk : look (dk v l) (.inl n) = some (v n) := by rw [look_dk, if_pos (p.mem_iff.mpr hn)]
  refine ⟨.dK (dk v (remS n l)), ?_, fun x => ?_, remS n l, set_at e, p.filter _⟩
  · simp only [dpopD, hc, keyOf, hk, dropD_dk]
  · simp only [dpopD, hc, keyOf, hk, dropD_dk]
theorem DK.pop_none (h : DK S a ids v) {n : Int} (hn : n ∉ ids) (x : D) : dpopD S [.ref a, .int n, x] = some (x, S) := by
  obtain ⟨l, e, p⟩ := h
  have hc : cellK S a = some (dk v l) := by unfold cellK; rw [e]
  have hk : look (dk v l) (.inl n) = none := by rw [look_dk, if_neg fun z => hn (p.mem_iff.mp z)]
  simp only [dpopD, hc, keyOf, hk]
theorem DK.setdef_in (h : DK S a ids v) (hl : ids.length < 16777216) {n : Int} (hn : n ∈ ids) (x : D) : setdefD S [.ref a, .int n, x] = some (v n, S) := by
  obtain ⟨l, e, p⟩ := h
  have hk : look (dk v l) (.inl n) = some (v n) := by rw [look_dk, if_pos (p.mem_iff.mpr hn)]
  have hz : (dk v l).length < sizeLine := by rw [dk_len, p.length_eq]; simpa using hl
  simp only [setdefD, e, keyOf, hk, hz, if_true]
theorem DK.setdef_new (h : DK S a ids v) (hl : ids.length < 16777216) {n : Int} (hn : n ∉ ids) (x : D) : ∃ c, setdefD S [.ref a, .int n, x] = some (x, S.set a c) ∧ DK (S.set a c) a (addS n ids) (updF v n x) := by
  obtain ⟨l, e, p⟩ := h
  have hk : look (dk v l) (.inl n) = none := by rw [look_dk, if_neg fun z => hn (p.mem_iff.mp z)]
  have hz : (dk v l).length < sizeLine := by rw [dk_len, p.length_eq]; simpa using hl
  refine ⟨.dK (putD (dk v l) (.inl n) x), ?_, DK.put e p n x⟩
  simp only [setdefD, e, keyOf, hk, hz, if_true]
end
/-! ### loops over lists told as values -/
section
variable {cf : Nat → List D → Sto → R D} {wf : Nat} {S : Sto} {ρ : Env} {Q : Fl → Sto → Prop} {r : Sts}
theorem to_forP {A : Type} {g : A → D} {xs : List A} {p : Pat} {it : It} {b : Sts} {S1 : Sto} (hi : evIt cf it ρ S = .ok (xs.map g, []) S1) (J : List A → Env → Sto → Prop) (h0 : J [] ρ S1)
    (hs : ∀ pre x post ρ S, xs = pre ++ x :: post → J pre ρ S → ∃ ρ2, p.bnd (g x) ρ = some ρ2 ∧ (exs cf wf b ρ2 S).To fun f S' => match f with | .nx ρ' => J (pre ++ [x]) ρ' S' | .ct ρ' => J (pre ++ [x]) ρ' S' | .bk ρ' => (exs cf wf r ρ' S').To Q | .rt v => Q (.rt v) S')
    (he : ∀ ρ S, J xs ρ S → (exs cf wf r ρ S).To Q) : (exs cf wf (.cons (.for_ p it b) r) ρ S).To Q := by
  refine to_for hi (fun ds ρ S => ∃ pre post, xs = pre ++ post ∧ ds = post.map g ∧ J pre ρ S) ⟨[], xs, rfl, rfl, h0⟩ (fun _ _ _ _ => gok_nil) ?_ ?_
  · rintro d ds ρ S ⟨pre, post, e1, e2, hj⟩
    cases post with
    | nil => cases e2
    | cons x post =>
      cases e2
      obtain ⟨ρ2, e3, h⟩ := hs pre x post ρ S e1 hj
      refine ⟨ρ2, e3, h.mono fun f S' q => ?_⟩
      cases f with
      | nx ρ' => exact ⟨pre ++ [x], post, by simpa using e1, rfl, q⟩
      | ct ρ' => exact ⟨pre ++ [x], post, by simpa using e1, rfl, q⟩
      | bk ρ' => exact q
      | rt v => exact q
  · rintro ρ S ⟨pre, post, e1, e2, hj⟩
    cases post with
    | nil =>
      rw [List.append_nil] at e1
      subst e1
      exact he ρ S hj
    | cons x post => cases e2
theorem tx_forP {A : Type} {g : A → D} {xs : List A} {p : Pat} {it : It} {b : Sts} {S1 : Sto} {Xc : Nat → Sto → Prop} (hi : evIt cf it ρ S = .ok (xs.map g, []) S1) (J : List A → Env → Sto → Prop) (h0 : J [] ρ S1)
    (hs : ∀ pre x post ρ S, xs = pre ++ x :: post → J pre ρ S → ∃ ρ2, p.bnd (g x) ρ = some ρ2 ∧ (exs cf wf b ρ2 S).TX (fun f S' => match f with | .nx ρ' => J (pre ++ [x]) ρ' S' | .ct ρ' => J (pre ++ [x]) ρ' S' | .bk ρ' => (exs cf wf r ρ' S').TX Q Xc | .rt v => Q (.rt v) S') Xc)
    (he : ∀ ρ S, J xs ρ S → (exs cf wf r ρ S).TX Q Xc) : (exs cf wf (.cons (.for_ p it b) r) ρ S).TX Q Xc := by
  refine tx_for hi (fun ds ρ S => ∃ pre post, xs = pre ++ post ∧ ds = post.map g ∧ J pre ρ S) ⟨[], xs, rfl, rfl, h0⟩ (fun _ _ _ _ => gok_nil) ?_ ?_
  · rintro d ds ρ S ⟨pre, post, e1, e2, hj⟩
    cases post with
    | nil => cases e2
    | cons x post =>
      cases e2
      obtain ⟨ρ2, e3, h⟩ := hs pre x post ρ S e1 hj
      refine ⟨ρ2, e3, h.mono (fun f S' q => ?_) fun _ _ z => z⟩
      cases f with
      | nx ρ' => exact ⟨pre ++ [x], post, by simpa using e1, rfl, q⟩
      | ct ρ' => exact ⟨pre ++ [x], post, by simpa using e1, rfl, q⟩
      | bk ρ' => exact q
      | rt v => exact q
  · rintro ρ S ⟨pre, post, e1, e2, hj⟩
    cases post with
    | nil =>
      rw [List.append_nil] at e1
      subst e1
      exact he ρ S hj
    | cons x post => cases e2
end
end NT
/-! a teller, plainly -/
namespace NT
open PySem L2
structure Th where
  p : Int × Int
  room : Int
  g : Option Int
structure Si where
  far : Int
  slack : Int
  deep : Int
def dTh (t : Th) : D := .tup [dP t.p, .int t.room, dG t.g]
def dSi (s : Si) : D := .tup [.int s.far, .int s.slack, .int s.deep]
structure TS where
  doors : Doors
  ids : List Int
  th : Int → Th
  hs : List Int
  si : Int → Si
  kn : Int → Int → Bool
structure Th.Ok (t : Th) : Prop where
  p : -1000 ≤ t.p.1 ∧ t.p.1 ≤ 1000 ∧ -1000 ≤ t.p.2 ∧ t.p.2 ≤ 1000
  room : 0 ≤ t.room ∧ t.room ≤ 9
structure Si.Ok (t : Si) : Prop where
  far : 0 ≤ t.far ∧ t.far ≤ 10000
  slack : 0 ≤ t.slack ∧ t.slack ≤ 10000
structure TS.Ok (T : TS) : Prop where
  doors : DOk T.doors
  ids : Up T.ids
  hs : Up T.hs
  sub : ∀ h ∈ T.hs, h ∈ T.ids
  th : ∀ n ∈ T.ids, (T.th n).Ok
  si : ∀ n ∈ T.hs, (T.si n).Ok
  kn : ∀ h n, T.kn h n = true → h ∈ T.hs ∧ n ∈ T.ids ∧ n ≠ h
  few : T.ids.length ≤ 1000
noncomputable def reachL (ds : Doors) (r deep : Int) : List Int := ((dl ds r).filter fun p => decide (p.2 ≤ deep)).map (·.1)
theorem mem_reachL {ds : Doors} {r deep x : Int} : x ∈ reachL ds r deep ↔ (0 ≤ x ∧ x ≤ 9) ∧ ∃ m : Nat, (m : Int) ≤ deep ∧ Dst ds r x m := by
  unfold reachL
  simp only [List.mem_map, List.mem_filter, decide_eq_true_eq]
  constructor
  · rintro ⟨⟨y, k⟩, ⟨h1, h2⟩, rfl⟩
    obtain ⟨h3, m, rfl, h4⟩ := mem_dl.mp h1
    exact ⟨h3, m, h2, h4⟩
  · rintro ⟨h1, m, h2, h3⟩
    exact ⟨(x, m), ⟨mem_dl.mpr ⟨h1, m, rfl, h3⟩, h2⟩, rfl⟩
namespace TS
variable (T : TS)
def joined (h n : Int) : Bool := !(T.th h).g.isNone && decide ((T.th h).g = (T.th n).g)
noncomputable def hears (h n : Int) : Bool := decide ((T.th n).room ∈ reachL T.doors (T.th h).room (T.si h).deep)
def apart (h n : Int) : Int := cheb (T.th h).p (T.th n).p
noncomputable def fits (h n : Int) : Bool := T.joined h n || T.hears h n && decide (T.apart h n ≤ (T.si h).far + if T.kn h n then (T.si h).slack else 0)
def thing (n : Int) : Thing := ⟨n, (T.th n).p, (T.th n).room, (T.th n).g⟩
def board : List Thing := T.ids.map T.thing
noncomputable def flip (h n : Int) : Bool := decide (n ≠ h) && (T.fits h n != T.kn h n)
structure Row where
  /-- none: the beginning, as the module has it -/
  t : Option Rat
  b : Bool
  h : Int
  n : Int
noncomputable def rowsOf (t : Option Rat) (h : Int) : List Row := (T.ids.filter (T.flip h)).map fun n => ⟨t, T.fits h n, h, n⟩
noncomputable def rows (t : Option Rat) : List Row := T.hs.flatMap (T.rowsOf t)
noncomputable def settle : TS := { T with kn := fun h n => if h ∈ T.hs ∧ n ∈ T.ids ∧ n ≠ h then T.fits h n else T.kn h n }
def knows (h : Int) : List Int := T.ids.filter (T.kn h)
def knownBy (n : Int) : List Int := T.hs.filter fun h => T.kn h n
end TS
def dTm : Option Rat → D
  | none => .wt [.int 0, .int 1]
  | some q => dQ q
def dRow (r : TS.Row) : D := .tup [dTm r.t, .str (if r.b then "met" else "lost"), .int r.h, .int r.n]
/-- where a teller's parts lie -/
structure TA where
  i : Nat
  a : Nat
  b : Nat
  k : Nat
  j : Int → Nat
def tfs (T : TS) (A : TA) : List (Str × D) := [("doors", .tup (T.doors.map pr)), ("things", .ref A.a), ("sights", .ref A.b), ("known", .ref A.k)]
structure TA.Ok (A : TA) (hs : List Int) : Prop where
  nz : 0 < A.i ∧ 0 < A.a ∧ 0 < A.b ∧ 0 < A.k
  ne : A.i ≠ A.a ∧ A.i ≠ A.b ∧ A.i ≠ A.k ∧ A.a ≠ A.b ∧ A.a ≠ A.k ∧ A.b ≠ A.k
  j : ∀ h ∈ hs, 0 < A.j h ∧ A.j h ≠ A.i ∧ A.j h ≠ A.a ∧ A.j h ≠ A.b ∧ A.j h ≠ A.k
  inj : ∀ h ∈ hs, ∀ h' ∈ hs, A.j h = A.j h' → h = h'
structure TRep (c : Nat) (S : Sto) (A : TA) (T : TS) : Prop where
  ins : S[A.i]? = some (.ins c (tfs T A))
  th : DK S A.a T.ids fun n => dTh (T.th n)
  si : DK S A.b T.hs fun n => dSi (T.si n)
  kn : DK S A.k T.hs fun n => .ref (A.j n)
  kj : ∀ h ∈ T.hs, DK S (A.j h) (T.knows h) fun _ => .bl true
  ok : T.Ok
  ad : A.Ok T.hs
def own (A : TA) (T : TS) (p : Nat) : Prop := p = A.i ∨ p = A.a ∨ p = A.b ∨ p = A.k ∨ ∃ h ∈ T.hs, p = A.j h
section
variable {c : Nat} {S S' : Sto} {A : TA} {T : TS}
theorem TRep.of (h : TRep c S A T) (e : ∀ p, own A T p → S'[p]? = S[p]?) : TRep c S' A T :=
  ⟨(e _ (.inl rfl)).trans h.ins, h.th.of (e _ (.inr (.inl rfl))), h.si.of (e _ (.inr (.inr (.inl rfl)))), h.kn.of (e _ (.inr (.inr (.inr (.inl rfl))))),
    fun x hx => (h.kj x hx).of (e _ (.inr (.inr (.inr (.inr ⟨x, hx, rfl⟩))))), h.ok, h.ad⟩
theorem TRep.own_lt (h : TRep c S A T) {p : Nat} (o : own A T p) : p ≠ 0 ∧ p < S.length := by
  rcases o with rfl | rfl | rfl | rfl | ⟨x, hx, rfl⟩
  · exact ⟨by have := h.ad.nz; omega, (List.getElem?_eq_some_iff.mp h.ins).1⟩
  · exact ⟨by have := h.ad.nz; omega, h.th.lt⟩
  · exact ⟨by have := h.ad.nz; omega, h.si.lt⟩
  · exact ⟨by have := h.ad.nz; omega, h.kn.lt⟩
  · exact ⟨by have := h.ad.j x hx; omega, (h.kj x hx).lt⟩
theorem TRep.fr {O : Nat → Prop} {k : Nat} (h : TRep c S A T) (f : Fr O k S S') (q : ∀ p, own A T p → ¬ O p) : TRep c S' A T :=
  h.of fun p o => f.old p (h.own_lt o).1 (q p o) (h.own_lt o).2
theorem TRep.go {k : Nat} (h : TRep c S A T) (f : Go k S S') : TRep c S' A T :=
  h.of fun p o => f.old p (h.own_lt o).1 (h.own_lt o).2
theorem TRep.ins_of (h : TRep c S A T) : insOf S c (.ref A.i) = some (A.i, tfs T A) := insOf_at h.ins
@[simp] theorem look_doors : look (tfs T A) "doors" = some (.tup (T.doors.map pr)) := rfl
@[simp] theorem look_things : look (tfs T A) "things" = some (.ref A.a) := rfl
@[simp] theorem look_sights : look (tfs T A) "sights" = some (.ref A.b) := rfl
@[simp] theorem look_known : look (tfs T A) "known" = some (.ref A.k) := rfl
@[simp] theorem look_need : look (tfs T A) "need" = none := rfl
@[simp] theorem look_board : look (tfs T A) "board" = none := rfl
@[simp] theorem look_hearers : look (tfs T A) "hearers" = none := rfl
@[simp] theorem look_knows : look (tfs T A) "knows" = none := rfl
@[simp] theorem look_known_by : look (tfs T A) "known_by" = none := rfl
@[simp] theorem look_is_joined : look (tfs T A) "is_joined" = none := rfl
@[simp] theorem look_can_hear : look (tfs T A) "can_hear" = none := rfl
@[simp] theorem look_fits : look (tfs T A) "fits" = none := rfl
@[simp] theorem look_settled : look (tfs T A) "settled" = none := rfl
@[simp] theorem look_turn_pair : look (tfs T A) "turn_pair" = none := rfl
@[simp] theorem look_come : look (tfs T A) "come" = none := rfl
@[simp] theorem look_listen : look (tfs T A) "listen" = none := rfl
@[simp] theorem look_deaf : look (tfs T A) "deaf" = none := rfl
@[simp] theorem look_go : look (tfs T A) "go" = none := rfl
@[simp] theorem look_room : look (tfs T A) "room" = none := rfl
@[simp] theorem look_group : look (tfs T A) "group" = none := rfl
@[simp] theorem look_door : look (tfs T A) "door" = none := rfl
@[simp] theorem look_turn : look (tfs T A) "turn" = none := rfl
@[simp] theorem look_pair_turn : look (tfs T A) "pair_turn" = none := rfl
@[simp] theorem look_told : look (tfs T A) "told" = none := rfl
@[simp] theorem idx_Th0 {t : Th} {S : Sto} : idxD S [dTh t, .int 0] = some (dP t.p, S) := by simp [dTh]
@[simp] theorem idx_Th1 {t : Th} {S : Sto} : idxD S [dTh t, .int 1] = some (.int t.room, S) := by simp [dTh]
@[simp] theorem idx_Th2 {t : Th} {S : Sto} : idxD S [dTh t, .int 2] = some (dG t.g, S) := by simp [dTh]
@[simp] theorem idx_Si0 {t : Si} {S : Sto} : idxD S [dSi t, .int 0] = some (.int t.far, S) := by simp [dSi]
@[simp] theorem idx_Si1 {t : Si} {S : Sto} : idxD S [dSi t, .int 1] = some (.int t.slack, S) := by simp [dSi]
@[simp] theorem idx_Si2 {t : Si} {S : Sto} : idxD S [dSi t, .int 2] = some (.int t.deep, S) := by simp [dSi]
@[simp] theorem bnd_Th {t : Th} {a b e : Nat} {ρ : Env} : (Pat.tp [a, b, e]).bnd (dTh t) ρ = some (((ρ.set a (some (dP t.p))).set b (some (.int t.room))).set e (some (dG t.g))) := rfl
@[simp] theorem bnd_Si {t : Si} {a b e : Nat} {ρ : Env} : (Pat.tp [a, b, e]).bnd (dSi t) ρ = some (((ρ.set a (some (.int t.far))).set b (some (.int t.slack))).set e (some (.int t.deep))) := rfl
@[simp] theorem isN_dG {g : Option Int} : D.isN (dG g) = g.isNone := by cases g <;> rfl
theorem eq_dG {g g' : Option Int} {S : Sto} : eqD S [dG g, dG g'] = some (.bl (decide (g = g')), S) := by
  have h1 : pl (dG g) = true := by cases g <;> rfl
  have h2 : pl (dG g') = true := by cases g' <;> rfl
  have d1 : dep (dG g) ≤ 64 := by cases g <;> simp [dG, dep]
  have d2 : dep (dG g') ≤ 64 := by cases g' <;> simp [dG, dep]
  rw [eqD_pl h1 h2 d1 d2]
  have : (dG g = dG g') ↔ g = g' := by
    cases g <;> cases g' <;> simp [dG]
  simp [this]
theorem eqD_bls {S : Sto} {a b : Bool} : eqD S [.bl a, .bl b] = some (.bl (decide (a = b)), S) := eqD_bl
theorem neD_bl {S : Sto} {a b : Bool} : neD S [.bl a, .bl b] = some (.bl (a != b), S) := by
  simp [neD, D.py, D.py0, SeqAt.shaped, PyData.canLay0, PyData.depth, PyData.eqv]
  cases a <;> cases b <;> rfl
end

theorem lt_prs {S : Sto} {p q : Int × Int} : Cop.f .lt S [pr p, pr q] = some (.bl (prLt p q), S) := by
  have h : ordOk (.tuple [.int p.1, .int p.2]) (.tuple [.int q.1, .int q.2]) = true := by
    simp [ordOk, PySem.W.alike, PySem.W.alikeAll, PyData.depth, PyData.depthAll]
  simp [Cop.f, ordD, pr, D.py, D.py0, D.py0L, h, PySem.W.dataLt_ii, prLt]
/-! ### one pair of a teller changed -/
namespace TS
variable (T : TS)
def put (h n : Int) (b : Bool) : TS := { T with kn := fun x m => if x = h ∧ m = n then b else T.kn x m }
noncomputable def part (P : Int → Int → Bool) : TS := { T with kn := fun h n => if P h n = true ∧ h ∈ T.hs ∧ n ∈ T.ids ∧ n ≠ h then T.fits h n else T.kn h n }
end TS
section
variable {c : Nat} {S S' : Sto} {A : TA} {T : TS}
theorem put_ok (ok : T.Ok) {h n : Int} {b : Bool} (q : b = true → h ∈ T.hs ∧ n ∈ T.ids ∧ n ≠ h) : (T.put h n b).Ok :=
  ⟨ok.doors, ok.ids, ok.hs, ok.sub, ok.th, ok.si, fun x m z => by
    have z' : (if x = h ∧ m = n then b else T.kn x m) = true := z
    split at z'
    · rename_i e
      obtain ⟨rfl, rfl⟩ := e
      exact q z'
    · exact ok.kn x m z', ok.few⟩
theorem TRep.put (r : TRep c S A T) {h n : Int} {b : Bool} {x : Cell} (hh : h ∈ T.hs) (q : b = true → n ∈ T.ids ∧ n ≠ h) (d : DK (S.set (A.j h) x) (A.j h) ((T.put h n b).knows h) fun _ => .bl true) : TRep c (S.set (A.j h) x) A (T.put h n b) := by
  obtain ⟨j1, j2, j3, j4, j5⟩ := r.ad.j h hh
  have ne : ∀ {p}, A.j h ≠ p → (S.set (A.j h) x)[p]? = S[p]? := fun {p} z => List.getElem?_set_ne z
  refine ⟨(ne j2).trans r.ins, r.th.of (ne j3), r.si.of (ne j4), r.kn.of (ne j5), fun y hy => ?_, put_ok r.ok fun z => ⟨hh, q z⟩, r.ad⟩
  by_cases e : y = h
  · subst e
    exact d
  · have : (T.put h n b).knows y = T.knows y := by
      unfold TS.knows TS.put
      refine List.filter_congr fun m _ => ?_
      simp [e]
    rw [this]
    exact (r.kj y hy).of (ne fun z => e (r.ad.inj y hy h hh z.symm))
theorem put_knows_tt (ok : T.Ok) {h n : Int} (hn : n ∈ T.ids) : (T.put h n true).knows h = addS n (T.knows h) := by
  refine (ok.ids.filter _).uniq (Up.add (ok.ids.filter _)) fun m => ?_
  rw [mem_addS]
  simp only [TS.put, TS.knows, List.mem_filter]
  by_cases e : m = n
  · subst e
    simp [hn]
  · simp [e]
theorem put_knows_ff (ok : T.Ok) {h n : Int} : (T.put h n false).knows h = remS n (T.knows h) := by
  refine (ok.ids.filter _).uniq (Up.rem (ok.ids.filter _)) fun m => ?_
  rw [mem_remS]
  simp only [TS.put, TS.knows, List.mem_filter]
  by_cases e : m = n
  · subst e
    simp
  · simp [e]
end
end NT
/-! a teller, plainly -/
namespace NT.K
open PySem L2 NT
theorem to_ite_t {cf : Nat → List D → Sto → R D} {wf : Nat} {ρ : NT.Env} {S : Sto} {Q : Fl → Sto → Prop} {r a b : Sts} {c : E} (h : (ev2 cf c).2 ρ S = .ok true S) (k : (exs cf wf (a.app r) ρ S).To Q) : (exs cf wf (.cons (.ite c a b) r) ρ S).To Q :=
  to_ite (by rw [h, To_ok]; exact ⟨fun _ => k, fun z => by cases z⟩)
theorem to_ite_f {cf : Nat → List D → Sto → R D} {wf : Nat} {ρ : NT.Env} {S : Sto} {Q : Fl → Sto → Prop} {r a b : Sts} {c : E} (h : (ev2 cf c).2 ρ S = .ok false S) (k : (exs cf wf (b.app r) ρ S).To Q) : (exs cf wf (.cons (.ite c a b) r) ρ S).To Q :=
  to_ite (by rw [h, To_ok]; exact ⟨fun z => (by cases z), fun _ => k⟩)
theorem eite_t {cf : Nat → List D → Sto → R D} {ρ : NT.Env} {S : Sto} {c a b : E} (h : (ev2 cf c).2 ρ S = .ok true S) : (ev2 cf (.ite c a b)).1 ρ S = (ev2 cf a).1 ρ S := by
  rw [e1_ite]
  show ((ev2 cf c).2 ρ S).bind _ = _
  rw [h]
  rfl
theorem eite_f {cf : Nat → List D → Sto → R D} {ρ : NT.Env} {S : Sto} {c a b : E} (h : (ev2 cf c).2 ρ S = .ok false S) : (ev2 cf (.ite c a b)).1 ρ S = (ev2 cf b).1 ρ S := by
  rw [e1_ite]
  show ((ev2 cf c).2 ρ S).bind _ = _
  rw [h]
  rfl
theorem str_eq {S : Sto} {a b : Str} (ha : PyData.strOk a = true) (hb : PyData.strOk b = true) : eqD S [.str a, .str b] = some (.bl (decide (a = b)), S) := by
  rw [eqD_pl (by simpa [pl] using ha) (by simpa [pl] using hb) (by simp [dep]) (by simp [dep])]
  simp
theorem var_is {cf : Nat → List D → Sto → R D} {i : Nat} {k y : Str} {ρ : NT.Env} {S : Sto} (h : ρ[i]? = some (some (.str k))) (hk : PyData.strOk k = true) (hy : PyData.strOk y = true) : (ev2 cf (.cmp .eq (.var i) (.lit (.str y)))).2 ρ S = .ok (decide (k = y)) S := by
  simp [h, str_eq hk hy]
theorem in_two {S : Sto} {x a b : Str} (hx : PyData.strOk x = true) (ha : PyData.strOk a = true) (hb : PyData.strOk b = true) : inG (fun b => b) S [.str x, .tup [.str a, .str b]] = some (.bl (decide (x = a ∨ x = b)), S) := by
  have e : inB S (.str x) (.tup [.str a, .str b]) = some (decide (x = a ∨ x = b)) := by
    have h0 : dGet S (.tup [.str a, .str b]) (.str x) = none := rfl
    simp only [inB, h0, asSeq_tup, D.py, D.py0, D.py0L]
    rw [if_pos (by simp [SeqAt.shaped, PyData.canLay0, PyData.canLayAll0, PyData.depth, PyData.depthAll, hx, ha, hb])]
    congr 1
    rw [Bool.eq_iff_iff]
    simp [PyData.eqv]
    constructor
    · rintro (h | h)
      · exact .inl h.symm
      · exact .inr h.symm
    · rintro (h | h)
      · exact .inl h.symm
      · exact .inr h.symm
  simp [inG, e]
theorem plL_prs : ∀ ns : Doors, plL (ns.map pr) = true
  | [] => rfl
  | p :: ns => by simp [plL, pl, pr, plL_prs ns]
theorem depL_prs : ∀ ns : Doors, depL (ns.map pr) ≤ 1
  | [] => Nat.zero_le _
  | p :: ns => by
    have := depL_prs ns
    simp [depL, dep, pr]
    omega
theorem eq_prs {S : Sto} (ns : Doors) : eqD S [.lst (ns.map pr), .lst (ns.map pr)] = some (.bl true, S) := by
  have := depL_prs ns
  rw [eqD_pl (by simp [pl, plL_prs]) (by simp [pl, plL_prs]) (by simp [dep]; omega) (by simp [dep]; omega)]
  simp
theorem sorted_prs {S : Sto} {ns ms : Doors} (hl : ns.length ≤ 16777216) (nd : ns.Nodup) (hm : ∀ p, p ∈ ns ↔ p ∈ ms) (up : ms.Pairwise fun p q => prLt p q = true) : sortedD S [.lst (ns.map pr)] = some (.lst (ms.map pr), S) := by
  have e : ns.mergeSort prLe = ms := by
    have h1 : (ns.mergeSort prLe).Pairwise fun p q => prLe p q = true := List.pairwise_mergeSort prLe_trans prLe_total _
    have h2 : (ns.mergeSort prLe).Nodup := (List.mergeSort_perm _ _).nodup_iff.mpr nd
    have h3 : ms.Nodup := by
      rw [List.nodup_iff_pairwise_ne]
      exact up.imp fun {p q} h e => by subst e; simp [prLt] at h
    refine List.Perm.eq_of_pairwise (le := fun p q => prLe p q = true) (fun p q _ _ x y => ?_) h1 (up.imp fun {p q} h => ?_) ((List.perm_ext_iff_of_nodup h2 h3).mpr fun p => by rw [List.mem_mergeSort, hm])
    · simp only [prLe, decide_eq_true_eq] at x y
      exact Prod.ext (by omega) (by omega)
    · simp only [prLe, prLt, decide_eq_true_eq] at h ⊢
      omega
  have := sortedD_pr (S := S) (d := .lst (ns.map pr)) (ns := ns) (by simp [itemsOf]) (by simpa using hl)
  rw [this, e]
end NT.K
namespace NT.K
open PySem L2 NT
theorem cut_but {xs : List D} : cutD xs none (some (-1)) = xs.dropLast := by
  unfold cutD
  have e0 : HT.sIx xs.length 0 none = 0 := rfl
  rw [e0]
  show (xs.drop 0).take (HT.sIx xs.length xs.length (some (-1)) - 0) = _
  have e1 : HT.sIx xs.length xs.length (some (-1)) = xs.length - 1 := by
    unfold HT.sIx
    simp
    try omega
  rw [e1, List.dropLast_eq_take]
  simp
theorem cut_tl {xs : List D} : cutD xs (some 1) none = xs.drop 1 := by
  unfold cutD
  have e0 : HT.sIx xs.length xs.length none = xs.length := rfl
  rw [e0]
  have e1 : HT.sIx xs.length 0 (some 1) = min 1 xs.length := by
    have := HT.sIx_nat xs.length 0 1
    simpa using this
  rw [e1]
  cases xs with
  | nil => simp
  | cons x xs =>
    have : min 1 (x :: xs).length = 1 := by simp
    rw [this]
    simp
theorem zip_prs {A : Type} (f : A → D) : ∀ (xs ys : List A), (List.zip (xs.map f) (ys.map f)).map (fun p => D.tup [p.1, p.2]) = (List.zip xs ys).map fun q => D.tup [f q.1, f q.2]
  | [], _ => by simp
  | _ :: _, [] => by simp
  | x :: xs, y :: ys => by simp [zip_prs f xs ys]
theorem mem_knows {T : TS} {h n : Int} (ok : T.Ok) : n ∈ T.knows h ↔ T.kn h n = true := by
  unfold TS.knows
  rw [List.mem_filter]
  exact ⟨fun z => z.2, fun z => ⟨(ok.kn h n z).2.1, z⟩⟩
def lostR (h n : Int) : TS.Row := ⟨none, false, h, n⟩
def rt (r : TS.Row) : Rat := r.t.getD 0
def hnLt (a b : TS.Row) : Bool := decide (a.h < b.h ∨ (a.h = b.h ∧ a.n < b.n))
def aheadR (a b : TS.Row) : Bool := if rt a = rt b then hnLt a b else decide (rt a < rt b)
def insR (l : List TS.Row) (r : TS.Row) : List TS.Row := (l.reverse.dropWhile (aheadR r)).reverse ++ r :: (l.reverse.takeWhile (aheadR r)).reverse
def sortR (R : List TS.Row) : List TS.Row := R.foldl insR []
def lastK (k : Bool) : List (Rat × Bool) → Bool
  | [] => k
  | e :: es => lastK e.2 es
def Alt (k : Bool) : List (Rat × Bool) → Prop
  | [] => True
  | e :: es => e.2 = !k ∧ Alt e.2 es
theorem left_alt {o : Option (Rat × Rat)} {t : Rat} : Alt true (leftR o t) := by
  unfold leftR
  split
  · exact ⟨rfl, trivial⟩
  · split
    · exact ⟨rfl, trivial⟩
    · split
      · trivial
      · exact ⟨rfl, trivial⟩
theorem ch_alt {k : Bool} {w o : Way} {far slack : Int} : Alt k (chR k w o far slack) := by
  unfold chR
  cases k with
  | true => exact left_alt
  | false =>
    simp only [Bool.false_eq_true, if_false]
    split
    · trivial
    · exact ⟨rfl, left_alt⟩
def chRows (x m : Int) (es : List (Rat × Bool)) : List TS.Row := es.map fun e => ⟨some e.1, e.2, x, m⟩
def wayOf (T : TS) (go : Int → Option (Int × Int)) (n : Int) : Way := ((T.th n).p, (go n).getD (T.th n).p)
def chs (T : TS) (go : Int → Option (Int × Int)) (x m : Int) : List (Rat × Bool) := chR (T.kn x m) (wayOf T go x) (wayOf T go m) (T.si x).far (T.si x).slack
noncomputable def pairs (T : TS) (x : Int) : List Int := T.ids.filter fun n => decide (n ≠ x) && (!T.joined x n && T.hears x n)
noncomputable def pairRows (T : TS) (go : Int → Option (Int × Int)) (x : Int) (l : List Int) : List TS.Row := l.flatMap fun n => chRows x n (chs T go x n)
noncomputable def turnRows (T : TS) (go : Int → Option (Int × Int)) : List TS.Row := T.hs.flatMap fun x => pairRows T go x (pairs T x)
noncomputable def turnS (T : TS) (go : Int → Option (Int × Int)) : TS := { T with th := fun n => { T.th n with p := (go n).getD (T.th n).p }, kn := fun h n => if h ∈ T.hs ∧ n ∈ pairs T h then lastK (T.kn h n) (chs T go h n) else T.kn h n }
theorem mem_pairs {T : TS} {x n : Int} : n ∈ pairs T x ↔ n ∈ T.ids ∧ n ≠ x ∧ T.joined x n = false ∧ T.hears x n = true := by
  simp [pairs]
/-! rows played one by one -/
abbrev Kn := Int → Int → Bool
def setK (k : Kn) (h n : Int) (b : Bool) : Kn := fun x m => if x = h ∧ m = n then b else k x m
def playOk (k : Kn) : List TS.Row → Prop
  | [] => True
  | r :: R => r.b = !k r.h r.n ∧ playOk (setK k r.h r.n r.b) R
def playK (k : Kn) : List TS.Row → Kn
  | [] => k
  | r :: R => playK (setK k r.h r.n r.b) R
def ofP (h n : Int) (r : TS.Row) : Bool := decide (r.h = h) && decide (r.n = n)
def altB (k : Bool) : List TS.Row → Prop
  | [] => True
  | r :: R => r.b = !k ∧ altB r.b R
def lastB' (k : Bool) : List TS.Row → Bool
  | [] => k
  | r :: R => lastB' r.b R
theorem play_iff {k : Kn} : ∀ {R : List TS.Row}, (∀ h n, altB (k h n) (R.filter (ofP h n))) → playOk k R
  | [], _ => trivial
  | r :: R, H => by
    have h0 := H r.h r.n
    rw [List.filter_cons, if_pos (by simp [ofP])] at h0
    refine ⟨h0.1, play_iff fun h n => ?_⟩
    by_cases e : h = r.h ∧ n = r.n
    · obtain ⟨rfl, rfl⟩ := e
      simp only [setK, and_self, if_true]
      exact h0.2
    · have h1 := H h n
      rw [List.filter_cons, if_neg (by
        simp only [ofP, Bool.and_eq_true, decide_eq_true_eq]
        exact fun z => e ⟨z.1.symm, z.2.symm⟩)] at h1
      simp only [setK, if_neg e]
      exact h1
theorem play_last : ∀ (R : List TS.Row) (k : Kn) (h n : Int), playK k R h n = lastB' (k h n) (R.filter (ofP h n))
  | [], k, h, n => rfl
  | r :: R, k, h, n => by
    rw [playK, play_last R]
    by_cases e : h = r.h ∧ n = r.n
    · obtain ⟨rfl, rfl⟩ := e
      rw [List.filter_cons, if_pos (by simp [ofP])]
      simp [setK, lastB']
    · rw [List.filter_cons, if_neg (by
        simp only [ofP, Bool.and_eq_true, decide_eq_true_eq]
        exact fun z => e ⟨z.1.symm, z.2.symm⟩)]
      simp only [setK, if_neg e]
/-! a pair's rows -/
theorem filt_hs {f : Int → List TS.Row} (hf : ∀ x, ∀ r ∈ f x, r.h = x) (h n : Int) : ∀ {hs : List Int}, hs.Nodup → (hs.flatMap f).filter (ofP h n) = if h ∈ hs then (f h).filter (ofP h n) else []
  | [], _ => by simp
  | x :: hs, nd => by
    have nd' := List.nodup_cons.mp nd
    rw [List.flatMap_cons, List.filter_append, filt_hs hf h n nd'.2]
    by_cases e : h = x
    · subst e
      rw [if_neg nd'.1, if_pos List.mem_cons_self, List.append_nil]
    · have : (f x).filter (ofP h n) = [] := by
        rw [List.filter_eq_nil_iff]
        intro r hr
        simp only [ofP, Bool.and_eq_true, decide_eq_true_eq]
        rw [hf x r hr]
        exact fun z => e z.1.symm
      rw [this, List.nil_append]
      by_cases e2 : h ∈ hs <;> simp [e, e2]
theorem filt_ns {f : Int → List TS.Row} (hf : ∀ x, ∀ r ∈ f x, r.n = x) (h n : Int) : ∀ {ns : List Int}, ns.Nodup → (ns.flatMap f).filter (ofP h n) = if n ∈ ns then (f n).filter (ofP h n) else []
  | [], _ => by simp
  | x :: hs, nd => by
    have nd' := List.nodup_cons.mp nd
    rw [List.flatMap_cons, List.filter_append, filt_ns hf h n nd'.2]
    by_cases e : n = x
    · subst e
      rw [if_neg nd'.1, if_pos List.mem_cons_self, List.append_nil]
    · have : (f x).filter (ofP h n) = [] := by
        rw [List.filter_eq_nil_iff]
        intro r hr
        simp only [ofP, Bool.and_eq_true, decide_eq_true_eq]
        rw [hf x r hr]
        exact fun z => e z.2.symm
      rw [this, List.nil_append]
      by_cases e2 : n ∈ hs <;> simp [e, e2]
theorem map_flat {A B : Type} (f : A → B) : ∀ l : List A, l.map f = l.flatMap fun a => [f a]
  | [] => rfl
  | a :: l => by rw [List.map_cons, List.flatMap_cons, map_flat f l]; rfl
theorem rows_pair {T : TS} (ok : T.Ok) (t : Option Rat) (h n : Int) : (T.rows t).filter (ofP h n) = if h ∈ T.hs ∧ n ∈ T.ids ∧ T.flip h n = true then [⟨t, T.fits h n, h, n⟩] else [] := by
  unfold TS.rows
  rw [filt_hs (f := T.rowsOf t) (fun x r hr => by
    unfold TS.rowsOf at hr
    obtain ⟨m, _, rfl⟩ := List.mem_map.mp hr
    rfl) h n ok.hs.nodup]
  by_cases hh : h ∈ T.hs
  · rw [if_pos hh]
    unfold TS.rowsOf
    rw [map_flat, filt_ns (f := fun n => [(⟨t, T.fits h n, h, n⟩ : TS.Row)]) (fun x r hr => by rw [List.mem_singleton.mp hr]) h n (List.Nodup.sublist List.filter_sublist ok.ids.nodup)]
    simp only [List.mem_filter]
    by_cases hn : n ∈ T.ids ∧ T.flip h n = true
    · rw [if_pos hn, if_pos ⟨hh, hn⟩]
      simp [ofP]
    · rw [if_neg hn, if_neg fun z => hn z.2]
  · rw [if_neg hh, if_neg fun z => hh z.1]
theorem lost_pair1 {l : List Int} (nd : l.Nodup) (x h n : Int) : (l.map (lostR x)).filter (ofP h n) = if h = x ∧ n ∈ l then [lostR h n] else [] := by
  rw [map_flat, filt_ns (f := fun n => [lostR x n]) (fun y r hr => by rw [List.mem_singleton.mp hr]; rfl) h n nd]
  by_cases hn : n ∈ l
  · rw [if_pos hn]
    by_cases e : h = x
    · subst e
      simp [ofP, lostR, hn]
    · have e' : ¬ x = h := fun z => e z.symm
      simp [ofP, lostR, e, e']
  · simp [hn]
theorem lost_pair2 {l : List Int} (nd : l.Nodup) (m h n : Int) : (l.map fun x => lostR x m).filter (ofP h n) = if n = m ∧ h ∈ l then [lostR h n] else [] := by
  rw [map_flat, filt_hs (f := fun x => [lostR x m]) (fun y r hr => by rw [List.mem_singleton.mp hr]; rfl) h n nd]
  by_cases hn : h ∈ l
  · rw [if_pos hn]
    by_cases e : n = m
    · subst e
      simp [ofP, lostR, hn]
    · have e' : ¬ m = n := fun z => e z.symm
      simp [ofP, lostR, e, e']
  · simp [hn]
/-! settling -/
theorem settle_play {P : TS} (ok : P.Ok) (t : Option Rat) : (∀ h n, altB (P.kn h n) ((P.rows t).filter (ofP h n))) ∧ playK P.kn (P.rows t) = P.settle.kn := by
  refine ⟨fun h n => ?_, ?_⟩
  · rw [rows_pair ok]
    split
    · rename_i z
      have hf := z.2.2
      unfold TS.flip at hf
      simp only [Bool.and_eq_true, decide_eq_true_eq] at hf
      refine ⟨?_, trivial⟩
      revert hf
      cases P.fits h n <;> cases P.kn h n <;> simp
    · trivial
  · funext h n
    rw [play_last, rows_pair ok]
    show _ = if h ∈ P.hs ∧ n ∈ P.ids ∧ n ≠ h then P.fits h n else P.kn h n
    by_cases z : h ∈ P.hs ∧ n ∈ P.ids ∧ n ≠ h
    · rw [if_pos z]
      by_cases hf : P.flip h n = true
      · rw [if_pos ⟨z.1, z.2.1, hf⟩]
        rfl
      · rw [if_neg fun q => hf q.2.2]
        unfold TS.flip at hf
        rw [decide_eq_true z.2.2, Bool.true_and] at hf
        show P.kn h n = _
        revert hf
        cases P.fits h n <;> cases P.kn h n <;> simp
    · rw [if_neg z, if_neg fun q => z ⟨q.1, q.2.1, by
        have := q.2.2
        unfold TS.flip at this
        simp only [Bool.and_eq_true, decide_eq_true_eq] at this
        exact this.1⟩]
      rfl
/-- as it stands it is settled -/
def Set' (T : TS) : Prop := ∀ h n, h ∈ T.hs → n ∈ T.ids → n ≠ h → T.fits h n = T.kn h n
theorem settle_set {P : TS} (ok : P.Ok) : Set' P.settle := by
  intro h n hh hn hne
  have hk : P.settle.kn h n = P.fits h n := by
    show (if h ∈ P.hs ∧ n ∈ P.ids ∧ n ≠ h then P.fits h n else P.kn h n) = _
    rw [if_pos ⟨hh, hn, hne⟩]
  rw [hk]
  have hs := (ok.si h hh).slack
  have e : P.settle.fits h n = (P.joined h n || P.hears h n && decide (P.apart h n ≤ (P.si h).far + if P.settle.kn h n then (P.si h).slack else 0)) := rfl
  rw [e, hk]
  unfold TS.fits
  cases P.joined h n with
  | true => simp
  | false =>
    cases P.hears h n with
    | false => simp
    | true =>
      simp only [Bool.false_or, Bool.true_and]
      by_cases q : P.apart h n ≤ (P.si h).far + if P.kn h n = true then (P.si h).slack else 0
      · rw [decide_eq_true q]
        simp only [if_true, decide_eq_true_eq]
        split at q <;> omega
      · rw [decide_eq_false q]
        simp only [Bool.false_eq_true, if_false, decide_eq_false_iff_not]
        split at q <;> omega
theorem tw_mem {A : Type} {p : A → Bool} {x : A} : ∀ {l : List A}, x ∈ l.takeWhile p → p x = true
  | a :: l, h => by
    rw [List.takeWhile_cons] at h
    split at h
    · rcases List.mem_cons.mp h with rfl | h
      · assumption
      · exact tw_mem h
    · cases h
/-! sorting rows -/
theorem insR_filter {l : List TS.Row} {r : TS.Row} {h n : Int} (hl : ofP h n r = true → ∀ x ∈ l, ofP h n x = true → rt x ≤ rt r) : (insR l r).filter (ofP h n) = l.filter (ofP h n) ++ (if ofP h n r = true then [r] else []) := by
  have e : l = (l.reverse.dropWhile (aheadR r)).reverse ++ (l.reverse.takeWhile (aheadR r)).reverse := by
    rw [← List.reverse_append, List.takeWhile_append_dropWhile, List.reverse_reverse]
  unfold insR
  rw [List.filter_append, List.filter_cons]
  by_cases hr : ofP h n r = true
  · have hnone : ((l.reverse.takeWhile (aheadR r)).reverse).filter (ofP h n) = [] := by
      rw [List.filter_eq_nil_iff]
      intro x hx
      have hx1 := List.mem_reverse.mp hx
      have ha : aheadR r x = true := tw_mem hx1
      have hxl : x ∈ l := List.mem_reverse.mp (List.takeWhile_sublist _ |>.subset hx1)
      intro hp
      have ht := hl hr x hxl hp
      unfold aheadR at ha
      simp only [ofP, Bool.and_eq_true, decide_eq_true_eq] at hp hr
      split at ha
      · simp only [hnLt, decide_eq_true_eq] at ha
        omega
      · simp only [decide_eq_true_eq] at ha
        grind
    rw [if_pos hr, if_pos hr, hnone]
    conv => rhs; rw [e, List.filter_append, hnone, List.append_nil]
  · rw [if_neg hr, if_neg hr, List.append_nil]
    conv => rhs; rw [e, List.filter_append]
theorem sortR_filter {h n : Int} : ∀ (R l : List TS.Row), ((l ++ R).filter (ofP h n)).Pairwise (fun a b => rt a ≤ rt b) → (R.foldl insR l).filter (ofP h n) = (l ++ R).filter (ofP h n)
  | [], l, _ => by simp
  | r :: R, l, hp => by
    rw [List.foldl_cons]
    have h1 : (insR l r).filter (ofP h n) = (l ++ [r]).filter (ofP h n) := by
      rw [insR_filter, List.filter_append]
      · rw [List.filter_cons, List.filter_nil]
      · intro hr x hx hpx
        rw [List.filter_append, List.pairwise_append] at hp
        exact hp.2.2 x (List.mem_filter.mpr ⟨hx, hpx⟩) r (by rw [List.filter_cons, if_pos hr]; exact List.mem_cons_self)
    have h2 : (insR l r ++ R).filter (ofP h n) = (l ++ r :: R).filter (ofP h n) := by
      rw [List.filter_append, h1, ← List.filter_append]
      simp
    rw [sortR_filter R (insR l r) (by rw [h2]; exact hp), h2]
/-- nothing stands ahead of an earlier one -/
def UpR (l : List TS.Row) : Prop := l.Pairwise fun a b => aheadR b a = false
theorem ahead_trans {a b c : TS.Row} (h1 : aheadR b a = false) (h2 : aheadR c b = false) : aheadR c a = false := by
  unfold aheadR hnLt at *
  split at h1 <;> split at h2 <;> split <;> simp only [decide_eq_false_iff_not] at * <;> first | grind | omega
theorem ahead_asym {a b : TS.Row} (h : aheadR a b = true) : aheadR b a = false := by
  unfold aheadR hnLt at *
  split at h <;> split <;> simp only [decide_eq_true_eq, decide_eq_false_iff_not] at * <;> first | grind | omega
theorem insR_up {l : List TS.Row} (h : UpR l) (r : TS.Row) : UpR (insR l r) := by
  have e : l = (l.reverse.dropWhile (aheadR r)).reverse ++ (l.reverse.takeWhile (aheadR r)).reverse := by
    rw [← List.reverse_append, List.takeWhile_append_dropWhile, List.reverse_reverse]
  have h' : UpR ((l.reverse.dropWhile (aheadR r)).reverse ++ (l.reverse.takeWhile (aheadR r)).reverse) := by rw [← e]; exact h
  obtain ⟨p1, p2, p3⟩ := List.pairwise_append.mp h'
  have hd : ∀ x ∈ (l.reverse.dropWhile (aheadR r)).reverse, aheadR r x = false := by
    intro x hx
    cases q : l.reverse.dropWhile (aheadR r) with
    | nil => rw [q] at hx; cases hx
    | cons y ys =>
      have hy : aheadR r y = false := by
        have := List.head?_dropWhile_not (aheadR r) l.reverse
        rw [q] at this
        simpa using this
      rw [q, List.reverse_cons] at hx p1
      rcases List.mem_append.mp hx with hx | hx
      · have := (List.pairwise_append.mp p1).2.2 x hx y (by simp)
        exact ahead_trans this hy
      · rw [List.mem_singleton.mp hx]
        exact hy
  have ht : ∀ x ∈ (l.reverse.takeWhile (aheadR r)).reverse, aheadR r x = true := fun x hx => tw_mem (List.mem_reverse.mp hx)
  unfold insR UpR
  rw [List.pairwise_append, List.pairwise_cons]
  refine ⟨p1, ⟨fun x hx => ahead_asym (ht x hx), p2⟩, fun x hx y hy => ?_⟩
  rcases List.mem_cons.mp hy with rfl | hy
  · exact hd x hx
  · exact p3 x hx y hy
theorem sortR_up (R : List TS.Row) : UpR (sortR R) := by
  have : ∀ (R l : List TS.Row), UpR l → UpR (R.foldl insR l) := by
    intro R
    induction R with
    | nil => exact fun l h => h
    | cons r R ih => exact fun l h => ih _ (insR_up h r)
  exact this R [] List.Pairwise.nil
theorem ahead_rt {a b : TS.Row} (h : aheadR b a = false) : rt a ≤ rt b := by
  unfold aheadR at h
  split at h
  · rename_i e
    rw [e]
    exact Rat.le_refl
  · simp only [decide_eq_false_iff_not] at h
    grind
def lastB (es : List (Rat × Bool)) (k : Bool) : Bool := match es.getLast? with
  | some e => e.2
  | none => k
theorem lastK_last : ∀ (es : List (Rat × Bool)) (k : Bool), lastK k es = lastB es k
  | [], k => rfl
  | [e], k => rfl
  | e :: e2 :: es, k => by
    show lastK e.2 (e2 :: es) = _
    rw [lastK_last (e2 :: es) e.2]
    unfold lastB
    rw [List.getLast?_cons_cons]
    cases h : (e2 :: es).getLast? with
    | none => simp at h
    | some x => rfl
theorem left_facts {o : Option (Rat × Rat)} {t : Rat} (h0 : 0 ≤ t) (h1 : t ≤ 1) (hk : ∀ k, o = some k → k.2 ≤ 1) : ∀ e ∈ leftR o t, t ≤ e.1 ∧ e.1 ≤ 1 := by
  intro e he
  unfold leftR at he
  split at he
  · simp at he
    subst he
    exact ⟨Rat.le_refl, h1⟩
  · rename_i k
    split at he
    · simp at he
      subst he
      exact ⟨Rat.le_refl, h1⟩
    · split at he
      · cases he
      · simp at he
        subst he
        have := hk k rfl
        exact ⟨by grind, this⟩
theorem left_len {o : Option (Rat × Rat)} {t : Rat} : (leftR o t).length ≤ 1 := by
  unfold leftR
  split
  · simp
  · split
    · simp
    · split <;> simp
/-- times rise, from none to all of a turn -/
theorem ch_times {k : Bool} {w o : Way} {far slack : Int} (hf : 0 ≤ far) (hs : 0 ≤ slack) : (chR k w o far slack).Pairwise (fun a b => a.1 ≤ b.1) ∧ ∀ e ∈ chR k w o far slack, 0 ≤ e.1 ∧ e.1 ≤ 1 := by
  have hk : ∀ x, whenR w o (far + slack) = some x → x.2 ≤ 1 := fun x hx => (when_rng (by omega) hx).2.2
  unfold chR
  split
  · have hl := left_facts (o := whenR w o (far + slack)) (t := 0) (by decide) (by decide) hk
    have hll := left_len (o := whenR w o (far + slack)) (t := 0)
    refine ⟨?_, fun e he => ⟨(hl e he).1, (hl e he).2⟩⟩
    cases q : leftR (whenR w o (far + slack)) 0 with
    | nil => exact List.Pairwise.nil
    | cons a r =>
      rw [q] at hll
      have : r = [] := by simpa using hll
      subst this
      simp
  · split
    · exact ⟨List.Pairwise.nil, by simp⟩
    · rename_i t ht
      obtain ⟨r0, r1, r2⟩ := when_rng hf ht
      have h1 : t.1 ≤ 1 := by grind
      have hl := left_facts (o := whenR w o (far + slack)) (t := t.1) r0 h1 hk
      have hll := left_len (o := whenR w o (far + slack)) (t := t.1)
      refine ⟨?_, fun e he => ?_⟩
      · rw [List.pairwise_cons]
        refine ⟨fun e he => (hl e he).1, ?_⟩
        cases q : leftR (whenR w o (far + slack)) t.1 with
        | nil => exact List.Pairwise.nil
        | cons a r =>
          rw [q] at hll
          have : r = [] := by simpa using hll
          subst this
          simp
      · rcases List.mem_cons.mp he with rfl | he
        · exact ⟨r0, h1⟩
        · have := hl e he
          exact ⟨by grind, this.2⟩
/-- whom one knows at the end of a turn -/
theorem ch_end (k : Bool) {w o : Way} {far slack : Int} (hf : 0 ≤ far) (hs : 0 ≤ slack) : lastK k (chR k w o far slack) = ((k || (whenR w o far).isSome) && decide (cheb w.2 o.2 ≤ far + slack)) := by
  rw [lastK_last]
  have hF : 0 ≤ far + slack := by omega
  cases k with
  | true =>
    have e : chR true w o far slack = leftR (whenR w o (far + slack)) 0 := by simp [chR]
    rw [e]
    have hn := left_nil (w := w) (o := o) hF (time := 0) (by decide)
    rcases left_cases (whenR w o (far + slack)) 0 with q | ⟨x, q⟩
    · rw [q] at hn ⊢
      have := hn.mp rfl
      simp [lastB, this]
    · rw [q] at hn ⊢
      have : ¬ cheb w.2 o.2 ≤ far + slack := fun z => by
        have := hn.mpr z
        cases this
      simp [lastB, this]
  | false =>
    unfold chR
    cases ht : whenR w o far with
    | none => simp [lastB]
    | some t =>
      obtain ⟨r0, r1, r2⟩ := when_rng hf ht
      have h1 : t.1 ≤ 1 := by grind
      have hn := left_nil (w := w) (o := o) hF (time := t.1) h1
      rcases left_cases (whenR w o (far + slack)) t.1 with q | ⟨x, q⟩
      · rw [q] at hn
        have := hn.mp rfl
        simp [lastB, q, this]
      · rw [q] at hn
        have : ¬ cheb w.2 o.2 ≤ far + slack := fun z => by
          have := hn.mpr z
          cases this
        simp [lastB, q, this]
theorem chRows_pair {x m : Int} (es : List (Rat × Bool)) (h n : Int) : (chRows x m es).filter (ofP h n) = if h = x ∧ n = m then chRows x m es else [] := by
  unfold chRows
  by_cases e : h = x ∧ n = m
  · obtain ⟨rfl, rfl⟩ := e
    rw [if_pos ⟨rfl, rfl⟩, List.filter_eq_self.mpr]
    intro r hr
    obtain ⟨q, _, rfl⟩ := List.mem_map.mp hr
    simp [ofP]
  · rw [if_neg e, List.filter_eq_nil_iff]
    intro r hr
    obtain ⟨q, _, rfl⟩ := List.mem_map.mp hr
    simp only [ofP, Bool.and_eq_true, decide_eq_true_eq]
    exact fun z => e ⟨z.1.symm, z.2.symm⟩
theorem turn_pair_rows {T : TS} (ok : T.Ok) (go : Int → Option (Int × Int)) (h n : Int) : (turnRows T go).filter (ofP h n) = if h ∈ T.hs ∧ n ∈ pairs T h then chRows h n (chs T go h n) else [] := by
  unfold turnRows
  rw [filt_hs (f := fun x => pairRows T go x (pairs T x)) (fun x r hr => by
    obtain ⟨m, _, hr⟩ := List.mem_flatMap.mp hr
    obtain ⟨e, _, rfl⟩ := List.mem_map.mp hr
    rfl) h n ok.hs.nodup]
  by_cases hh : h ∈ T.hs
  · rw [if_pos hh]
    unfold pairRows
    have nd : (pairs T h).Nodup := List.Nodup.sublist List.filter_sublist ok.ids.nodup
    rw [filt_ns (f := fun n => chRows h n (chs T go h n)) (fun x r hr => by
      obtain ⟨e, _, rfl⟩ := List.mem_map.mp hr
      rfl) h n nd]
    by_cases hn : n ∈ pairs T h
    · rw [if_pos hn, if_pos ⟨hh, hn⟩, chRows_pair, if_pos ⟨rfl, rfl⟩]
    · rw [if_neg hn, if_neg fun z => hn z.2]
  · rw [if_neg hh, if_neg fun z => hh z.1]
theorem chRows_alt {x m : Int} : ∀ {k : Bool} {es : List (Rat × Bool)}, Alt k es → altB k (chRows x m es) ∧ lastB' k (chRows x m es) = lastK k es
  | k, [], _ => ⟨trivial, rfl⟩
  | k, e :: es, h => by
    obtain ⟨h1, h2⟩ := chRows_alt (x := x) (m := m) h.2
    exact ⟨⟨h.1, h1⟩, h2⟩
theorem chs_times {T : TS} (ok : T.Ok) (go : Int → Option (Int × Int)) {x : Int} (hx : x ∈ T.hs) (m : Int) : ((chRows x m (chs T go x m)).Pairwise fun a b => rt a ≤ rt b) ∧ ∀ r ∈ chRows x m (chs T go x m), 0 ≤ rt r ∧ rt r ≤ 1 := by
  have hs := ok.si x hx
  obtain ⟨c1, c2⟩ := ch_times (k := T.kn x m) (w := wayOf T go x) (o := wayOf T go m) hs.far.1 hs.slack.1
  refine ⟨?_, fun r hr => ?_⟩
  · unfold chRows
    rw [List.pairwise_map]
    exact c1
  · obtain ⟨e, he, rfl⟩ := List.mem_map.mp hr
    exact c2 e he
theorem turn_sorted {T : TS} (ok : T.Ok) (go : Int → Option (Int × Int)) (h n : Int) : (sortR (turnRows T go)).filter (ofP h n) = if h ∈ T.hs ∧ n ∈ pairs T h then chRows h n (chs T go h n) else [] := by
  have := sortR_filter (h := h) (n := n) (turnRows T go) [] (by
    rw [List.nil_append, turn_pair_rows ok]
    split
    · rename_i z
      exact (chs_times ok go z.1 n).1
    · exact List.Pairwise.nil)
  unfold sortR
  rw [this, List.nil_append, turn_pair_rows ok]
theorem turn_play {T : TS} (ok : T.Ok) (go : Int → Option (Int × Int)) : (∀ h n, altB (T.kn h n) ((sortR (turnRows T go)).filter (ofP h n))) ∧ playK T.kn (sortR (turnRows T go)) = (turnS T go).kn := by
  refine ⟨fun h n => ?_, ?_⟩
  · rw [turn_sorted ok]
    split
    · exact (chRows_alt ch_alt).1
    · trivial
  · funext h n
    rw [play_last, turn_sorted ok]
    show _ = if h ∈ T.hs ∧ n ∈ pairs T h then lastK (T.kn h n) (chs T go h n) else T.kn h n
    split
    · exact (chRows_alt ch_alt).2
    · rfl
theorem turn_set {T : TS} (ok : T.Ok) (go : Int → Option (Int × Int)) (h : Set' T) : Set' (turnS T go) := by
  intro x m hx hm hne
  have hx' : x ∈ T.hs := hx
  have hm' : m ∈ T.ids := hm
  have hs := ok.si x hx'
  have h0 := h x m hx' hm' hne
  have ej : (turnS T go).joined x m = T.joined x m := rfl
  have eh : (turnS T go).hears x m = T.hears x m := rfl
  have es : (turnS T go).si = T.si := rfl
  have ek : (turnS T go).kn x m = if x ∈ T.hs ∧ m ∈ pairs T x then lastK (T.kn x m) (chs T go x m) else T.kn x m := rfl
  have ea : (turnS T go).apart x m = cheb (wayOf T go x).2 (wayOf T go m).2 := rfl
  unfold TS.fits at h0 ⊢
  rw [ej, eh, es, ea]
  cases hj : T.joined x m with
  | true =>
    rw [hj] at h0
    have ek' : (turnS T go).kn x m = T.kn x m := by
      rw [ek, if_neg fun z => by
        have := (mem_pairs.mp z.2).2.2.1
        rw [hj] at this
        cases this]
    rw [ek']
    simp at h0 ⊢
    exact h0
  | false =>
    cases hh : T.hears x m with
    | false =>
      rw [hj, hh] at h0
      have ek' : (turnS T go).kn x m = T.kn x m := by
        rw [ek, if_neg fun z => by
          have := (mem_pairs.mp z.2).2.2.2
          rw [hh] at this
          cases this]
      rw [ek']
      simp at h0 ⊢
      exact h0
    | true =>
      have hp : m ∈ pairs T x := mem_pairs.mpr ⟨hm', hne, hj, hh⟩
      have ek' : (turnS T go).kn x m = lastK (T.kn x m) (chs T go x m) := by rw [ek, if_pos ⟨hx', hp⟩]
      rw [ek']
      have he := ch_end (T.kn x m) (w := wayOf T go x) (o := wayOf T go m) hs.far.1 hs.slack.1
      have hw := when_end (w := wayOf T go x) (o := wayOf T go m) hs.far.1
      have hec : lastK (T.kn x m) (chs T go x m) = ((T.kn x m || (whenR (wayOf T go x) (wayOf T go m) (T.si x).far).isSome) && decide (cheb (wayOf T go x).2 (wayOf T go m).2 ≤ (T.si x).far + (T.si x).slack)) := he
      rw [hec]
      have hsl := hs.slack.1
      simp only [Bool.false_or, Bool.true_and]
      generalize hc : cheb (wayOf T go x).2 (wayOf T go m).2 = c at hw ⊢
      by_cases q1 : c ≤ (T.si x).far
      · obtain ⟨kk, hk, _⟩ := hw.mpr q1
        rw [hk]
        have q2 : c ≤ (T.si x).far + (T.si x).slack := by omega
        simp [q2]
      · by_cases q2 : c ≤ (T.si x).far + (T.si x).slack
        · simp only [q2, decide_true, Bool.and_true]
          cases z : (T.kn x m || (whenR (wayOf T go x) (wayOf T go m) (T.si x).far).isSome) <;> simp [q1, q2]
        · simp only [q2, decide_false, Bool.and_false]
          simp [q1]
def tv (t : Option Rat) : Rat := t.getD 0
theorem idx_Tm0 {t : Option Rat} {S : Sto} : idxD S [dTm t, .int 0] = some (.int (tv t).num, S) := by
  cases t with
  | none => rfl
  | some q => simp [dTm, tv]
theorem idx_Tm1 {t : Option Rat} {S : Sto} : idxD S [dTm t, .int 1] = some (.int ((tv t).den : Int), S) := by
  cases t with
  | none => rfl
  | some q => simp [dTm, tv]
/-- pairs in a dict -/
def dtB (ps : Doors) : List (List Key × D) := ps.map fun p => ([.inl p.1, .inl p.2], .bl true)
def DT (S : Sto) (a : Nat) (k : Kn) : Prop := ∃ ps : Doors, S[a]? = some (.dT (dtB ps)) ∧ ps.Nodup ∧ ∀ p : Int × Int, p ∈ ps ↔ k p.1 p.2 = true
/-- whom they know: ids from 0 to 99 -/
def KBd (k : Kn) : Prop := ∀ h n, k h n = true → (0 ≤ h ∧ h < 100) ∧ 0 ≤ n ∧ n < 100
theorem pairs_few {ps : Doors} (nd : ps.Nodup) (b : ∀ p ∈ ps, (0 ≤ p.1 ∧ p.1 < 100) ∧ 0 ≤ p.2 ∧ p.2 < 100) : ps.length ≤ 10000 := by
  have h1 : (ps.map fun p => (p.1 * 100 + p.2).toNat).Nodup := by
    rw [List.nodup_iff_pairwise_ne, List.pairwise_map]
    rw [List.nodup_iff_pairwise_ne] at nd
    refine List.Pairwise.imp_of_mem (fun {p q} hpm hqm hpq e => hpq ?_) nd
    have a1 := b p hpm
    have a2 := b q hqm
    exact Prod.ext (by omega) (by omega)
  have := L2.nat_nodup_len _ (List.range 10000) h1 fun x hx => by
    obtain ⟨p, hpm, rfl⟩ := List.mem_map.mp hx
    have a1 := b p hpm
    rw [List.mem_range]
    omega
  simpa using this
theorem key2_inj {p q : Int × Int} (h : ([.inl p.1, .inl p.2] : List Key) = [.inl q.1, .inl q.2]) : p = q := by
  injection h with e1 e2
  injection e2 with e2 _
  exact Prod.ext (Sum.inl.inj e1) (Sum.inl.inj e2)
theorem look_dtB (ps : Doors) (p : Int × Int) : look (dtB ps) [.inl p.1, .inl p.2] = if p ∈ ps then some (.bl true) else none := by
  unfold look dtB
  induction ps with
  | nil => rfl
  | cons q ps ih =>
    rw [List.map_cons, List.find?_cons]
    by_cases e : q = p
    · subst e
      simp
    · have e1 : decide (([.inl q.1, .inl q.2] : List Key) = [.inl p.1, .inl p.2]) = false := decide_eq_false fun z => e (key2_inj z)
      simp only [e1]
      rw [ih]
      have : (p ∈ q :: ps) ↔ p ∈ ps := by
        rw [List.mem_cons]
        exact ⟨fun h => h.elim (fun z => absurd z.symm e) id, .inr⟩
      by_cases h : p ∈ ps
      · rw [if_pos h, if_pos (this.mpr h)]
      · rw [if_neg h, if_neg fun z => h (this.mp z)]
theorem any_dtB (ps : Doors) (p : Int × Int) : ((dtB ps).any fun kv => decide (kv.1 = [.inl p.1, .inl p.2])) = decide (p ∈ ps) := by
  unfold dtB
  rw [List.any_map, Bool.eq_iff_iff]
  simp only [List.any_eq_true, Function.comp_apply, decide_eq_true_eq]
  constructor
  · rintro ⟨q, hq, e⟩
    rw [← key2_inj e]
    exact hq
  · exact fun h => ⟨p, h, rfl⟩
theorem putD_dtB {ps : Doors} {p : Int × Int} (h : p ∉ ps) : putD (dtB ps) [.inl p.1, .inl p.2] (.bl true) = dtB (ps ++ [p]) := by
  unfold putD
  rw [any_dtB, if_neg (by simpa using h)]
  simp [dtB]
theorem dropD_dtB (ps : Doors) (p : Int × Int) : dropD (dtB ps) [.inl p.1, .inl p.2] = dtB (ps.filter fun q => decide (q ≠ p)) := by
  unfold dropD dtB
  rw [List.filter_map]
  congr 1
  refine List.filter_congr fun q _ => ?_
  simp only [Function.comp_apply]
  rw [decide_eq_decide]
  exact ⟨fun h z => h (by rw [z]), fun h z => h (key2_inj z)⟩
section
variable {S S' : Sto} {a : Nat} {k : Kn} {h n : Int}
theorem DT.lt (d : DT S a k) : a < S.length := by
  obtain ⟨ps, e, _⟩ := d
  exact (List.getElem?_eq_some_iff.mp e).1
theorem DT.of (d : DT S a k) (e : S'[a]? = S[a]?) : DT S' a k := by
  obtain ⟨ps, e1, r⟩ := d
  exact ⟨ps, e.trans e1, r⟩
theorem DT.in (d : DT S a k) (h n : Int) {g : Bool → Bool} : inG g S [.tup [.int h, .int n], .ref a] = some (.bl (g (k h n)), S) := by
  obtain ⟨ps, e, nd, m⟩ := d
  have hm := m (h, n)
  have hk := look_dtB ps (h, n)
  simp only at hm hk
  have : inB S (.tup [.int h, .int n]) (.ref a) = some (k h n) := by
    have hg : dGet S (.ref a) (.tup [.int h, .int n]) = some (if (h, n) ∈ ps then some (.bl true) else none) := by
      simp [dGet, e, keysOf, keyOf, hk]
    simp only [inB, hg]
    by_cases q : (h, n) ∈ ps
    · rw [if_pos q, hm.mp q]
      rfl
    · rw [if_neg q]
      have : k h n = false := by
        cases z : k h n with
        | false => rfl
        | true => exact absurd (hm.mpr z) q
      rw [this]
      rfl
  simp [inG, this]
theorem DT.put (d : DT S a k) (hk : k h n = false) (hb : KBd k) : ∃ c, setS S (.ref a) (.tup [.int h, .int n]) (.bl true) = some (S.set a c) ∧ DT (S.set a c) a (setK k h n true) := by
  obtain ⟨ps, e, nd, m⟩ := d
  have hlt := pairs_few nd fun p hp => hb _ _ ((m p).mp hp)
  have hn : (h, n) ∉ ps := fun z => by
    have := (m (h, n)).mp z
    simp only at this
    rw [hk] at this
    cases this
  have hz : (dtB ps).length < sizeLine := by simp [dtB]; omega
  have hp := putD_dtB hn
  simp only at hp
  refine ⟨.dT (dtB (ps ++ [(h, n)])), ?_, ps ++ [(h, n)], set_at e, ?_, fun p => ?_⟩
  · simp only [setS, e, keysOf, keyOf, hz, if_true, hp]
  · rw [List.nodup_append]
    refine ⟨nd, by simp, fun p hp q hq => ?_⟩
    rw [List.mem_singleton.mp hq]
    rintro rfl
    exact hn hp
  · rw [List.mem_append, m, List.mem_singleton]
    unfold setK
    by_cases q : p.1 = h ∧ p.2 = n
    · have : p = (h, n) := Prod.ext q.1 q.2
      simp [q, this]
    · have : ¬ p = (h, n) := fun z => q ⟨by rw [z], by rw [z]⟩
      simp [q, this]
theorem DT.pop (d : DT S a k) (hk : k h n = true) : ∃ c, dpopD S [.ref a, .tup [.int h, .int n]] = some (.bl true, S.set a c) ∧ DT (S.set a c) a (setK k h n false) := by
  obtain ⟨ps, e, nd, m⟩ := d
  have hn : (h, n) ∈ ps := (m (h, n)).mpr hk
  have hlk := look_dtB ps (h, n)
  rw [if_pos hn] at hlk
  have hc : cellK S a = none := by unfold cellK; rw [e]
  have hd := dropD_dtB ps (h, n)
  simp only at hlk hd
  refine ⟨.dT (dtB (ps.filter fun q => decide (q ≠ (h, n)))), ?_, _, set_at e, nd.sublist List.filter_sublist, fun p => ?_⟩
  · simp only [dpopD, hc, e, keysOf, keyOf, hlk, hd]
  · rw [List.mem_filter, m, decide_eq_true_eq]
    unfold setK
    by_cases q : p.1 = h ∧ p.2 = n
    · have : p = (h, n) := Prod.ext q.1 q.2
      simp [q, this]
    · have : ¬ p = (h, n) := fun z => q ⟨by rw [z], by rw [z]⟩
      simp [q, this]
theorem DT.ok (d : DT S a k) : Mth.ok .dpop S (.ref a) = true := by
  obtain ⟨ps, e, _⟩ := d
  simp [Mth.ok, e]
end
theorem setK_bd {k : Kn} (hb : KBd k) {h n : Int} {b : Bool} (h1 : (0 ≤ h ∧ h < 100) ∧ 0 ≤ n ∧ n < 100) : KBd (setK k h n b) := fun x m z => by
  unfold setK at z
  split at z
  · rename_i e
    rw [e.1, e.2]
    exact h1
  · exact hb x m z
theorem met_ne {b : Bool} {S : Sto} : eqD S [.str (if b then "met" else "lost"), .str "met"] = some (.bl b, S) := by
  cases b with
  | true => rw [str_eq (by decide +kernel) (by decide +kernel)]; simp
  | false =>
    rw [str_eq (by decide +kernel) (by decide +kernel), decide_eq_false (by decide +kernel)]
theorem play_app : ∀ (pre post : List TS.Row) (k : Kn), playOk k (pre ++ post) → playOk (playK k pre) post
  | [], post, k, h => h
  | r :: pre, post, k, h => play_app pre post _ h.2
theorem playK_app : ∀ (pre : List TS.Row) (r : TS.Row) (k : Kn), playK k (pre ++ [r]) = setK (playK k pre) r.h r.n r.b
  | [], r, k => rfl
  | x :: pre, r, k => playK_app pre r _
theorem knows_in {T : TS} (ok : T.Ok) {S : Sto} {x m : Int} : inG (fun b => b) S [.int m, iL (T.knows x)] = some (.bl (T.kn x m), S) := by
  have := in_tup (g := fun b => b) (S := S) (x := m) (ns := T.knows x)
  unfold iL
  rw [this]
  congr 3
  rw [Bool.eq_iff_iff, decide_eq_true_eq]
  exact mem_knows ok
theorem knownBy_in {T : TS} {S : Sto} {x m : Int} (hx : x ∈ T.hs) : inG (fun b => b) S [.int x, iL (T.knownBy m)] = some (.bl (T.kn x m), S) := by
  have := in_tup (g := fun b => b) (S := S) (x := x) (ns := T.knownBy m)
  unfold iL
  rw [this]
  congr 3
  rw [Bool.eq_iff_iff, decide_eq_true_eq]
  unfold TS.knownBy
  rw [List.mem_filter]
  exact ⟨fun z => z.2, fun z => ⟨hx, z⟩⟩
/-- the pairs that are known, in order -/
def knPairs (T : TS) : Doors := T.hs.flatMap fun x => (T.knows x).map fun m => (x, m)
theorem mem_knPairs {T : TS} (ok : T.Ok) (p : Int × Int) : p ∈ knPairs T ↔ T.kn p.1 p.2 = true := by
  unfold knPairs
  rw [List.mem_flatMap]
  constructor
  · rintro ⟨x, hx, h⟩
    obtain ⟨m, hm, rfl⟩ := List.mem_map.mp h
    exact (mem_knows ok).mp hm
  · exact fun h => ⟨p.1, (ok.kn _ _ h).1, List.mem_map.mpr ⟨p.2, (mem_knows ok).mpr h, rfl⟩⟩
theorem knPairs_nodup {T : TS} (ok : T.Ok) : (knPairs T).Nodup := by
  unfold knPairs
  have : ∀ hs : List Int, hs.Nodup → (hs.flatMap fun x => (T.knows x).map fun m => (x, m)).Nodup := by
    intro hs
    induction hs with
    | nil => simp
    | cons x hs ih =>
      intro nd
      have nd' := List.nodup_cons.mp nd
      rw [List.flatMap_cons, List.nodup_append]
      refine ⟨?_, ih nd'.2, fun p hp q hq => ?_⟩
      · rw [List.nodup_iff_pairwise_ne, List.pairwise_map]
        have := (ok.ids.filter (T.kn x)).nodup
        rw [List.nodup_iff_pairwise_ne] at this
        exact this.imp fun h e => h (by injection e)
      · obtain ⟨m, hm, rfl⟩ := List.mem_map.mp hp
        obtain ⟨y, hy, hq⟩ := List.mem_flatMap.mp hq
        obtain ⟨k, hk, rfl⟩ := List.mem_map.mp hq
        rintro h
        injection h with h1 h2
        exact nd'.1 (h1 ▸ hy)
  exact this _ ok.hs.nodup
theorem sort_uniq {ns ms : Doors} (n1 : ns.Nodup) (n2 : ms.Nodup) (h : ∀ p, p ∈ ns ↔ p ∈ ms) : ns.mergeSort prLe = ms.mergeSort prLe := by
  have h1 : ∀ l : Doors, (l.mergeSort prLe).Pairwise fun p q => prLe p q = true := fun l => List.pairwise_mergeSort prLe_trans prLe_total _
  refine List.Perm.eq_of_pairwise (le := fun p q => prLe p q = true) (fun p q _ _ x y => ?_) (h1 _) (h1 _) ?_
  · simp only [prLe, decide_eq_true_eq] at x y
    exact Prod.ext (by omega) (by omega)
  · exact ((List.mergeSort_perm _ _).trans ((List.perm_ext_iff_of_nodup n1 n2).mpr h)).trans (List.mergeSort_perm _ _).symm
theorem set_facts {T : TS} (h : Set' T) {x m : Int} (hx : x ∈ T.hs) (hm : m ∈ T.ids) (hs : 0 ≤ (T.si x).slack) :
    (T.kn x m = true → m ≠ x → T.joined x m = false → T.hears x m = true ∧ T.apart x m ≤ (T.si x).far + (T.si x).slack) ∧
    (T.kn x m = false → m ≠ x → T.joined x m = false ∧ (T.hears x m = true → ¬ T.apart x m ≤ (T.si x).far)) := by
  refine ⟨fun hk hne hj => ?_, fun hk hne => ?_⟩
  · have := h x m hx hm hne
    unfold TS.fits at this
    rw [hk, hj] at this
    simpa using this
  · have := h x m hx hm hne
    unfold TS.fits at this
    rw [hk] at this
    simp at this
    exact ⟨this.1, fun hh => by have := this.2 hh; omega⟩
end NT.K
/-! few that are kept, plainly -/
namespace NT.K
open PySem L2 NT
def chRow (p : Int × Int) (kept : List Int) (slack : Int) (t : Thing) : Int × Int := (cheb t.p p - (if t.n ∈ kept then slack else 0), t.n)
def chosenL (ts : List Thing) (p : Int × Int) (kept : List Int) (most slack : Int) : List Int := srt ((((ts.map (chRow p kept slack)).mergeSort prLe).take most.toNat).map (·.2))
theorem chosen_len (ts : List Thing) (p : Int × Int) (kept : List Int) (most slack : Int) : (chosenL ts p kept most slack).length ≤ ts.length := by
  unfold chosenL srt
  simp
  omega
/-- chosen, one after another -/
def chainL (p : Int × Int) (most slack : Int) : List Int → List (List Thing) → List (List Int)
  | _, [] => []
  | k, b :: bs => chosenL b p k most slack :: chainL p most slack (chosenL b p k most slack) bs
def lastC (k : List Int) : List (List Int) → List Int
  | [] => k
  | x :: r => lastC x r
theorem chainL_app (p : Int × Int) (most slack : Int) : ∀ (a b : List (List Thing)) (k : List Int), chainL p most slack k (a ++ b) = chainL p most slack k a ++ chainL p most slack (lastC k (chainL p most slack k a)) b
  | [], b, k => rfl
  | x :: a, b, k => by
    simp only [List.cons_append, chainL, lastC]
    rw [chainL_app p most slack a b]
theorem chainL_len (p : Int × Int) (most slack : Int) : ∀ (a : List (List Thing)) (k : List Int), (chainL p most slack k a).length = a.length
  | [], k => rfl
  | x :: a, k => by simp [chainL, chainL_len p most slack a]
theorem lastC_app (k : List Int) (x : List Int) : ∀ r : List (List Int), lastC k (r ++ [x]) = x
  | [] => rfl
  | y :: r => by
    show lastC y (r ++ [x]) = x
    exact lastC_app y x r
/-- flickers -/
def flick2 (a b : List Int) : Int := (((a.filter fun x => !decide (x ∈ b)).length + (b.filter fun x => !decide (x ∈ a)).length : Nat) : Int)
def flickP (ps : List (List Int × List Int)) : Int := (ps.map fun q => flick2 q.1 q.2).sum
def flickL (rows : List (List Int)) : Int := flickP (List.zip rows.dropLast (rows.drop 1))
theorem flickP_app (a b : List (List Int × List Int)) : flickP (a ++ b) = flickP a + flickP b := by
  unfold flickP
  rw [List.map_append, List.sum_append]

theorem mem_chosen {ts : List Thing} {p : Int × Int} {kept : List Int} {most slack n : Int} : n ∈ chosenL ts p kept most slack ↔ ∃ q ∈ ((ts.map (chRow p kept slack)).mergeSort prLe).take most.toNat, q.2 = n := by
  unfold chosenL srt
  rw [List.mem_mergeSort, List.mem_map]
theorem rows_up {p : Int × Int} {kept : List Int} {slack : Int} (ts : List Thing) : ((ts.map (chRow p kept slack)).mergeSort prLe).Pairwise fun a b => prLe a b = true := List.pairwise_mergeSort prLe_trans prLe_total _
theorem rows_nodup {p : Int × Int} {kept : List Int} {slack : Int} {ts : List Thing} (h : (ts.map (·.n)).Nodup) : (((ts.map (chRow p kept slack)).mergeSort prLe).map (·.2)).Nodup := by
  have e : ((ts.map (chRow p kept slack)).map (·.2)) = ts.map (·.n) := by rw [List.map_map]; rfl
  have := ((List.mergeSort_perm (ts.map (chRow p kept slack)) prLe).map (·.2)).nodup_iff.mpr (by rw [e]; exact h)
  exact this
theorem take_nodup {p : Int × Int} {kept : List Int} {most slack : Int} {ts : List Thing} (h : (ts.map (·.n)).Nodup) : ((((ts.map (chRow p kept slack)).mergeSort prLe).take most.toNat).map (·.2)).Nodup := by
  rw [List.map_take]
  exact (rows_nodup h).sublist (List.take_sublist _ _)
theorem chosen_up {ts : List Thing} {p : Int × Int} {kept : List Int} {most slack : Int} (h : (ts.map (·.n)).Nodup) : Up (chosenL ts p kept most slack) := up_srt (take_nodup h)
theorem chosen_length {ts : List Thing} {p : Int × Int} {kept : List Int} {most slack : Int} : (chosenL ts p kept most slack).length = min most.toNat ts.length := by
  unfold chosenL srt
  simp
theorem chosen_sub {ts : List Thing} {p : Int × Int} {kept : List Int} {most slack n : Int} (h : n ∈ chosenL ts p kept most slack) : n ∈ ts.map (·.n) := by
  obtain ⟨q, hq, rfl⟩ := mem_chosen.mp h
  have := List.mem_of_mem_take hq
  rw [List.mem_mergeSort, List.mem_map] at this
  obtain ⟨t, ht, rfl⟩ := this
  exact List.mem_map.mpr ⟨t, ht, rfl⟩
theorem chosen_all {ts : List Thing} {p : Int × Int} {kept : List Int} {most slack : Int} (h : Up (ts.map (·.n))) (hm : (ts.length : Int) ≤ most) : chosenL ts p kept most slack = ts.map (·.n) := by
  refine (chosen_up h.nodup).uniq h fun n => ⟨chosen_sub, fun hn => ?_⟩
  obtain ⟨t, ht, rfl⟩ := List.mem_map.mp hn
  refine mem_chosen.mpr ⟨chRow p kept slack t, ?_, rfl⟩
  rw [List.take_of_length_le (by simp; omega), List.mem_mergeSort]
  exact List.mem_map.mpr ⟨t, ht, rfl⟩
/-- who is in is no farther than who is out -/
theorem chosen_le {ts : List Thing} {p : Int × Int} {kept : List Int} {most slack : Int} (h : (ts.map (·.n)).Nodup) {t u : Thing} (ht : t ∈ ts) (hu : u ∈ ts) (h1 : t.n ∈ chosenL ts p kept most slack) (h2 : u.n ∉ chosenL ts p kept most slack) : prLe (chRow p kept slack t) (chRow p kept slack u) = true := by
  have hm : ∀ t ∈ ts, chRow p kept slack t ∈ (ts.map (chRow p kept slack)).mergeSort prLe := fun t ht => by
    rw [List.mem_mergeSort]
    exact List.mem_map.mpr ⟨t, ht, rfl⟩
  obtain ⟨q, hq, e⟩ := mem_chosen.mp h1
  have nd := rows_nodup (p := p) (kept := kept) (slack := slack) h
  have same : ∀ a ∈ (ts.map (chRow p kept slack)).mergeSort prLe, ∀ b ∈ (ts.map (chRow p kept slack)).mergeSort prLe, a.2 = b.2 → a = b := by
    intro a ha b hb hab
    obtain ⟨i, hi⟩ := List.getElem?_of_mem ha
    obtain ⟨j, hj⟩ := List.getElem?_of_mem hb
    have hi' : (((ts.map (chRow p kept slack)).mergeSort prLe).map (·.2))[i]? = some a.2 := by rw [List.getElem?_map, hi]; rfl
    have hj' : (((ts.map (chRow p kept slack)).mergeSort prLe).map (·.2))[j]? = some a.2 := by rw [List.getElem?_map, hj, hab]; rfl
    have hij := (List.getElem?_inj (List.getElem?_eq_some_iff.mp hi').1 nd).mp (hi'.trans hj'.symm)
    subst hij
    rw [hi] at hj
    exact Option.some.inj hj
  have e1 : q = chRow p kept slack t := same q (List.mem_of_mem_take hq) _ (hm t ht) e
  subst e1
  have hu2 : chRow p kept slack u ∈ ((ts.map (chRow p kept slack)).mergeSort prLe).drop most.toNat := by
    have := hm u hu
    rw [← List.take_append_drop most.toNat ((ts.map (chRow p kept slack)).mergeSort prLe)] at this
    rcases List.mem_append.mp this with z | z
    · exact absurd (mem_chosen.mpr ⟨_, z, rfl⟩) h2
    · exact z
  have up := rows_up (p := p) (kept := kept) (slack := slack) ts
  rw [← List.take_append_drop most.toNat ((ts.map (chRow p kept slack)).mergeSort prLe)] at up
  exact (List.pairwise_append.mp up).2.2 _ hq _ hu2
theorem take_sep {l : List (Int × Int)} {P : Int × Int → Bool} (h : l.Pairwise fun a b => prLe a b = true) (hp : ∀ a ∈ l, ∀ b ∈ l, P a = true → P b = false → prLe b a = false) : l.take (l.filter P).length = l.filter P := by
  induction l with
  | nil => rfl
  | cons r l ih =>
    obtain ⟨h1, h2⟩ := List.pairwise_cons.mp h
    by_cases hr : P r = true
    · have := ih h2 fun a ha b hb => hp a (List.mem_cons_of_mem _ ha) b (List.mem_cons_of_mem _ hb)
      simp only [List.filter_cons, hr, if_true, List.length_cons, List.take_succ_cons]
      rw [this]
    · have : (r :: l).filter P = [] := by
        rw [List.filter_eq_nil_iff]
        intro q hq
        rcases List.mem_cons.mp hq with rfl | hq'
        · exact hr
        · intro z
          have := hp q hq r List.mem_cons_self z (by simpa using hr)
          rw [h1 q hq'] at this
          cases this
      rw [this]
      rfl
theorem chRow_nil {p : Int × Int} {slack : Int} {t : Thing} : chRow p [] slack t = rowOf p t := by simp [chRow, rowOf]
theorem chRow_zero {p : Int × Int} {kept : List Int} {t : Thing} : chRow p kept 0 t = rowOf p t := by simp [chRow, rowOf]
theorem chosen_nil {ts : List Thing} {p : Int × Int} {most slack : Int} : chosenL ts p [] most slack = srt (nearestL ts p most) := by
  unfold chosenL nearestL
  rw [show chRow p [] slack = rowOf p from funext fun t => chRow_nil]
theorem chosen_zero {ts : List Thing} {p : Int × Int} {kept : List Int} {most : Int} : chosenL ts p kept most 0 = srt (nearestL ts p most) := by
  unfold chosenL nearestL
  rw [show chRow p kept 0 = rowOf p from funext fun t => chRow_zero]
theorem len_of_same {A B : List Int} (ha : A.Nodup) (hb : B.Nodup) (h : ∀ n, n ∈ A ↔ n ∈ B) : A.length = B.length := ((List.perm_ext_iff_of_nodup ha hb).mpr h).length_eq
/-- those that are kept and need no slack stay -/
theorem chosen_again {ts : List Thing} {p : Int × Int} {k0 : List Int} {most slack : Int} (h : (ts.map (·.n)).Nodup) (hs : 0 ≤ slack) (hk : k0 = chosenL ts p [] most slack) : chosenL ts p k0 most slack = k0 := by
  have nd := rows_nodup (p := p) (kept := k0) (slack := slack) h
  have up := rows_up (p := p) (kept := k0) (slack := slack) ts
  have hsep : ∀ a ∈ (ts.map (chRow p k0 slack)).mergeSort prLe, ∀ b ∈ (ts.map (chRow p k0 slack)).mergeSort prLe, decide (a.2 ∈ k0) = true → decide (b.2 ∈ k0) = false → prLe b a = false := by
    intro a ha b hb h1 h2
    rw [List.mem_mergeSort] at ha hb
    obtain ⟨t, ht, rfl⟩ := List.mem_map.mp ha
    obtain ⟨u, hu, rfl⟩ := List.mem_map.mp hb
    have h1 := of_decide_eq_true h1
    have h2 := of_decide_eq_false h2
    simp only [chRow] at h1 h2
    have := chosen_le (p := p) (kept := []) (most := most) (slack := slack) h ht hu (by rw [← hk]; exact h1) (by rw [← hk]; exact h2)
    rw [chRow_nil, chRow_nil] at this
    simp only [rowOf, prLe, decide_eq_true_eq] at this
    simp only [chRow, prLe, if_pos h1, if_neg h2]
    have hne : t.n ≠ u.n := fun z => h2 (z ▸ h1)
    simp only [decide_eq_false_iff_not]
    have := of_decide_eq_true this
    omega
  have e := take_sep (P := fun q => decide (q.2 ∈ k0)) up hsep
  have hfl : (((ts.map (chRow p k0 slack)).mergeSort prLe).filter fun q => decide (q.2 ∈ k0)).length = k0.length := by
    rw [← List.length_map (f := (·.2))]
    refine len_of_same ?_ (by rw [hk]; exact (chosen_up h).nodup) fun n => ?_
    · exact nd.sublist (List.filter_sublist.map _)
    · rw [List.mem_map]
      constructor
      · rintro ⟨q, hq, rfl⟩
        exact of_decide_eq_true (List.mem_filter.mp hq).2
      · intro hn
        have := hn
        rw [hk] at this
        obtain ⟨t, ht, rfl⟩ := List.mem_map.mp (chosen_sub this)
        refine ⟨chRow p k0 slack t, List.mem_filter.mpr ⟨?_, ?_⟩, rfl⟩
        · rw [List.mem_mergeSort]
          exact List.mem_map.mpr ⟨t, ht, rfl⟩
        · exact decide_eq_true hn
  have hlen : k0.length = min most.toNat ts.length := by rw [hk]; exact chosen_length
  refine (chosen_up h).uniq (by rw [hk]; exact chosen_up h) fun n => ?_
  rw [mem_chosen]
  have et : ((ts.map (chRow p k0 slack)).mergeSort prLe).take most.toNat = ((ts.map (chRow p k0 slack)).mergeSort prLe).filter fun q => decide (q.2 ∈ k0) := by
    rw [← e, hfl, hlen]
    by_cases q : most.toNat ≤ ts.length
    · rw [Nat.min_eq_left q]
    · rw [Nat.min_eq_right (by omega), List.take_of_length_le (by simp; omega), List.take_of_length_le (by simp)]
  rw [et]
  constructor
  · rintro ⟨q, hq, rfl⟩
    exact of_decide_eq_true (List.mem_filter.mp hq).2
  · intro hn
    have := hn
    rw [hk] at this
    obtain ⟨t, ht, rfl⟩ := List.mem_map.mp (chosen_sub this)
    refine ⟨chRow p k0 slack t, List.mem_filter.mpr ⟨?_, decide_eq_true hn⟩, rfl⟩
    rw [List.mem_mergeSort]
    exact List.mem_map.mpr ⟨t, ht, rfl⟩
theorem flick2_self (a : List Int) : flick2 a a = 0 := by
  unfold flick2
  have : a.filter (fun x => !decide (x ∈ a)) = [] := by
    rw [List.filter_eq_nil_iff]
    intro x hx
    simp [hx]
  rw [this]
  rfl
theorem flick_same {A : List Int} {rows : List (List Int)} (h : ∀ r ∈ rows, r = A) : flickL rows = 0 := by
  unfold flickL flickP
  have : ∀ q ∈ List.zip rows.dropLast (rows.drop 1), flick2 q.1 q.2 = 0 := fun q hq => by
    obtain ⟨a, b⟩ := q
    obtain ⟨h1, h2⟩ := List.of_mem_zip hq
    have e1 := h a ((List.dropLast_sublist rows).subset h1)
    have e2 := h b ((List.drop_sublist 1 rows).subset h2)
    rw [e1, e2]
    exact flick2_self A
  rw [List.map_congr_left this]
  induction List.zip rows.dropLast (rows.drop 1) with
  | nil => rfl
  | cons a l ih => simpa using ih
theorem chain_same {p : Int × Int} {most slack : Int} {A : List Int} : ∀ {bs : List (List Thing)} {k : List Int}, (∀ b ∈ bs, ∀ k, k = A ∨ k = [] → chosenL b p k most slack = A) → (k = A ∨ k = []) → ∀ r ∈ chainL p most slack k bs, r = A
  | [], _, _, _ => by simp [chainL]
  | b :: bs, k, h, hk => fun r hr => by
    have e := h b List.mem_cons_self k hk
    simp only [chainL] at hr
    rcases List.mem_cons.mp hr with rfl | hr
    · exact e
    · rw [e] at hr
      exact chain_same (fun b hb => h b (List.mem_cons_of_mem _ hb)) (.inl rfl) r hr
theorem chain_at (p : Int × Int) (most slack : Int) : ∀ (bs : List (List Thing)) (k : List Int) (i : Nat) (b : List Thing), bs[i]? = some b → (chainL p most slack k bs)[i]? = some (chosenL b p (if i = 0 then k else ((chainL p most slack k bs)[i - 1]?).getD []) most slack)
  | [], _, i, b, h => by simp at h
  | x :: bs, k, 0, b, h => by
    simp at h
    subst h
    simp [chainL]
  | x :: bs, k, i + 1, b, h => by
    simp at h
    have := chain_at p most slack bs (chosenL x p k most slack) i b h
    simp only [chainL, List.getElem?_cons_succ, this, Nat.add_eq_zero_iff, Nat.succ_ne_self, and_false, if_false, Nat.add_sub_cancel]
    cases i with
    | zero => simp
    | succ i => simp
end NT.K
/-! locked dicts, read -/
namespace NT.K
open PySem L2 NT
/-- a dict read, locked or not -/
def DR (S : Sto) (a : Nat) (ids : List Int) (v : Int → D) : Prop := (S[a]?).map unl = some (.dK (dk v ids))
section
variable {S : Sto} {a : Nat} {ids : List Int} {v : Int → D}
theorem DR.dget (h : DR S a ids v) (n : Int) : dGet S (.ref a) (.int n) = some (if n ∈ ids then some (v n) else none) := by
  unfold DR at h
  simp [dGet, h, keyOf, look_dk]
theorem DR.idx (h : DR S a ids v) {n : Int} (hn : n ∈ ids) : idxD S [.ref a, .int n] = some (v n, S) := by
  simp [idxD, h.dget n, hn]
theorem DR.get1 (h : DR S a ids v) (n : Int) : dgetD S [.ref a, .int n] = some ((if n ∈ ids then v n else .non), S) := by
  by_cases q : n ∈ ids <;> simp [dgetD, h.dget n, q]
theorem DR.get2 (h : DR S a ids v) (n : Int) (x : D) : dgetD S [.ref a, .int n, x] = some ((if n ∈ ids then v n else x), S) := by
  by_cases q : n ∈ ids <;> simp [dgetD, h.dget n, q]
theorem DR.ok (h : DR S a ids v) : Mth.ok .dget S (.ref a) = true := by
  unfold DR at h
  simp [Mth.ok, h]
end
theorem keysF_dk {S : Sto} {i : Nat} {v : Int → D} {l : List Int} (h : S[i]? = some (.frz (.dK (dk v l)))) : keysF S (.ref i) = some (l.map D.int) := by
  simp [keysF, h, dk, List.map_map, keyD, Function.comp_def]
theorem to_ite_fs {cf : Nat → List D → Sto → R D} {wf : Nat} {ρ : NT.Env} {S S1 : Sto} {Q : Fl → Sto → Prop} {r a b : Sts} {c : E} (h : (ev2 cf c).2 ρ S = .ok false S1) (k : (exs cf wf (b.app r) ρ S1).To Q) : (exs cf wf (.cons (.ite c a b) r) ρ S).To Q :=
  to_ite (by rw [h, To_ok]; exact ⟨fun z => (by cases z), fun _ => k⟩)
theorem all_dk {cf : Nat → List D → Sto → R D} {k15 : Nat} {S : Sto} {ρ : NT.Env} {i : Nat} {e c : E} {ids : List Int} {v : Int → D} {f : Int → Bool}
    (he : (ev2 (cf) e).1 ρ S = .ok (.ref i) S) (hc : S[i]? = some (.dK (dk v ids)))
    (he' : (ev2 (cf) e).1 ρ (S.set i (.frz (.dK (dk v ids)))) = .ok (.ref i) (S.set i (.frz (.dK (dk v ids)))))
    (hl : ids.length ≤ 16777216) (h15 : k15 < ρ.length)
    (h : ∀ x ∈ ids, (ev2 (cf) c).1 (ρ.set k15 (some (.int x))) (S.set i (.frz (.dK (dk v ids)))) = .ok (.bl (f x)) (S.set i (.frz (.dK (dk v ids)))))
    (hf : ∀ x ∈ ids, f x = true) :
    (ev2 (cf) (.not (.bi .all (.cons (.lk e (.comp (.nm k15) (.keys e) .no c [k15])) .nil)))).2 ρ S = .ok false S := by
  have hb : (S.set i (.frz (.dK (dk v ids))))[i]? = some (.frz (.dK (dk v ids))) := set_at hc
  have hz : (ids.map D.int).length ≤ 16777216 := by simpa using hl
  have e1 : (ev2 (cf) (.comp (.nm k15) (.keys e) .no c [k15])).1 ρ (S.set i (.frz (.dK (dk v ids)))) = .ok (.lst (ids.map fun x => D.bl (f x))) (S.set i (.frz (.dK (dk v ids)))) := by
    have hq : ∀ x ∈ ids, (ev2 (cf) c).1 ((ρ.set k15 none).set k15 (some (.int x))) (S.set i (.frz (.dK (dk v ids)))) = .ok (.bl (f x)) (S.set i (.frz (.dK (dk v ids)))) := fun x hx => by
      rw [List.set_set]
      exact h x hx
    simp [he', keysF_dk hb, hl, hz]
    rw [lcD_all D.int (fun x => D.bl (f x)) gok_nil _ (fun x hx => by
      simp [h15, hq x hx, h x hx])]
    rfl
  have e2 := all_map (S := S) f ids
  have e3 : ids.all f = true := List.all_eq_true.mpr hf
  rw [e3] at e2
  have e4 : (ev2 (cf) (.lk e (.comp (.nm k15) (.keys e) .no c [k15]))).1 ρ S = .ok (.lst (ids.map fun x => D.bl (f x))) S := by
    rw [e1_lk, plain1, he]
    exact lkR_pure hc e1
  obtain ⟨k, hk⟩ : ∃ k, k = E.lk e (.comp (.nm k15) (.keys e) .no c [k15]) := ⟨_, rfl⟩
  rw [← hk] at e4 ⊢
  simp [e4, e2]
/-- a row of what one looks up in a locked dict -/
theorem lk_filt {cf : Nat → List D → Sto → R D} {k : Nat} {S : Sto} {ρ : NT.Env} {i : Nat} {e c q : E} {ids : List Int} {v g : Int → D} {p : Int → Bool}
    (hq : q.isNo = false) (hc : S[i]? = some (.dK (dk v ids)))
    (he' : (ev2 cf e).1 ρ (S.set i (.frz (.dK (dk v ids)))) = .ok (.ref i) (S.set i (.frz (.dK (dk v ids)))))
    (hl : ids.length ≤ 16777216) (hk : k < ρ.length)
    (h1 : ∀ x ∈ ids, (ev2 cf q).2 (ρ.set k (some (.int x))) (S.set i (.frz (.dK (dk v ids)))) = .ok (p x) (S.set i (.frz (.dK (dk v ids)))))
    (h2 : ∀ x ∈ ids, p x = true → (ev2 cf c).1 (ρ.set k (some (.int x))) (S.set i (.frz (.dK (dk v ids)))) = .ok (g x) (S.set i (.frz (.dK (dk v ids))))) :
    (ev2 cf (.comp (.nm k) (.keys e) q c [k])).1 ρ (S.set i (.frz (.dK (dk v ids)))) = .ok (.lst ((ids.filter p).map g)) (S.set i (.frz (.dK (dk v ids)))) := by
  have hb : (S.set i (.frz (.dK (dk v ids))))[i]? = some (.frz (.dK (dk v ids))) := set_at hc
  simp [he', keysF_dk hb, hl, hq]
  rw [lcD_filt D.int p g gok_nil _ (fun x hx => by
    by_cases z : p x = true
    · simp [hk, h1 x hx, h2 x hx z, z]
    · simp [hk, h1 x hx, z])]
  rfl
theorem lk_row {cf : Nat → List D → Sto → R D} {k : Nat} {S : Sto} {ρ : NT.Env} {i : Nat} {e c : E} {ids : List Int} {v g : Int → D}
    (he : (ev2 cf e).1 ρ S = .ok (.ref i) S) (hc : S[i]? = some (.dK (dk v ids)))
    (he' : (ev2 cf e).1 ρ (S.set i (.frz (.dK (dk v ids)))) = .ok (.ref i) (S.set i (.frz (.dK (dk v ids)))))
    (hl : ids.length ≤ 16777216) (hk : k < ρ.length)
    (h : ∀ x ∈ ids, (ev2 cf c).1 (ρ.set k (some (.int x))) (S.set i (.frz (.dK (dk v ids)))) = .ok (g x) (S.set i (.frz (.dK (dk v ids))))) :
    (ev2 cf (.lk e (.comp (.nm k) (.keys e) .no c [k]))).1 ρ S = .ok (.lst (ids.map g)) S := by
  have hb : (S.set i (.frz (.dK (dk v ids))))[i]? = some (.frz (.dK (dk v ids))) := set_at hc
  have e1 : (ev2 cf (.comp (.nm k) (.keys e) .no c [k])).1 ρ (S.set i (.frz (.dK (dk v ids)))) = .ok (.lst (ids.map g)) (S.set i (.frz (.dK (dk v ids)))) := by
    simp [he', keysF_dk hb, hl]
    rw [lcD_all D.int g gok_nil _ (fun x hx => by simp [hk, h x hx])]
    rfl
  rw [e1_lk, plain1, he]
  exact lkR_pure hc e1
theorem go_unlk {S S' : Sto} {k R : Nat} {c : Cell} (hc : S[R]? = some c) (hR : R ≠ 0) (g : Go k (S.set R (.frz c)) S') : Go k S (S'.set R c) ∧ S'[R]? = some (.frz c) := by
  have hl : R < S.length := (List.getElem?_eq_some_iff.mp hc).1
  have hl' : R < S'.length := by have := g.len; simp at this; omega
  have h1 : S'[R]? = some (.frz c) := by
    rw [g.old R hR (by simpa using hl)]
    exact set_at hc
  refine ⟨⟨by have := g.len; simpa using this, fun i h0 hi => ?_, fun l t => ?_⟩, h1⟩
  · by_cases e : i = R
    · subst e
      rw [List.getElem?_set_self hl', hc]
    · rw [List.getElem?_set_ne (Ne.symm e), g.old i h0 (by simpa using hi), List.getElem?_set_ne (Ne.symm e)]
  · obtain ⟨zs, e, q⟩ := t
    obtain ⟨zs', e', q'⟩ := g.town l ⟨zs, by rw [List.getElem?_set_ne hR]; exact e, q⟩
    exact ⟨zs', by rw [List.getElem?_set_ne hR]; exact e', q'⟩
theorem dict_dk {S : Sto} (v : Int → D) {l : List Int} (h : l.Nodup) : dictD S [.lst (l.map fun n => D.tup [.int n, v n])] = some (.ref S.length, S ++ [.dK (dk v l)]) := by
  have := dict_kvi (S := S) (fun n : Int => n) v (xs := l) (by simpa using h)
  exact this
end NT.K
namespace NT.K
open PySem L2 NT
def top (i : Nat) : PySem.Stmt := PySem.Challenge.pw_neartold_k40_whole_keeping_by_slack.main.body.getD i (.Pass ⟨0, 0, 0, 0⟩)
def sub (k j : Nat) : PySem.Stmt := match top k with
  | .ClassDef _ _ _ body _ _ _ _ _ _ _ => body.getD j (.Pass ⟨0, 0, 0, 0⟩)
  | _ => .Pass ⟨0, 0, 0, 0⟩
abbrev i__wall : Nat := 0
abbrev i_distance : Nat := 1
abbrev i_nearest : Nat := 2
abbrev i_chosen : Nat := 3
abbrev i_chosen_on : Nat := 4
abbrev i_flickers : Nat := 5
abbrev i_divisor : Nat := 6
abbrev i_fraction : Nat := 7
abbrev i_is_less : Nat := 8
abbrev i_lesser : Nat := 9
abbrev i_greater : Nat := 10
abbrev i_within : Nat := 11
abbrev i_when_near : Nat := 12
abbrev i_changes : Nat := 13
abbrev i_beside : Nat := 14
abbrev i_steps : Nat := 15
abbrev i_reach : Nat := 16
abbrev i_opened : Nat := 17
abbrev i_shut : Nat := 18
abbrev i_is_ahead : Nat := 19
abbrev i_sorted_rows : Nat := 20
abbrev i__law_draw : Nat := 21
abbrev i__law_pick : Nat := 22
abbrev i__law_board : Nat := 23
abbrev i__law_keeps : Nat := 24
abbrev i__law_all_known : Nat := 25
abbrev i_law : Nat := 26
abbrev i_Teller___init__ : Nat := 27
abbrev i_Teller_need : Nat := 28
abbrev i_Teller_board : Nat := 29
abbrev i_Teller_hearers : Nat := 30
abbrev i_Teller_knows : Nat := 31
abbrev i_Teller_known_by : Nat := 32
abbrev i_Teller_is_joined : Nat := 33
abbrev i_Teller_can_hear : Nat := 34
abbrev i_Teller_fits : Nat := 35
abbrev i_Teller_settled : Nat := 36
abbrev i_Teller_turn_pair : Nat := 37
abbrev i_Teller_come : Nat := 38
abbrev i_Teller_listen : Nat := 39
abbrev i_Teller_deaf : Nat := 40
abbrev i_Teller_go : Nat := 41
abbrev i_Teller_room : Nat := 42
abbrev i_Teller_group : Nat := 43
abbrev i_Teller_door : Nat := 44
abbrev i_Teller_turn : Nat := 45
abbrev i_Teller_pair_turn : Nat := 46
abbrev i_Teller_told : Nat := 47
abbrev c_NoThing : Nat := 0
abbrev c_NoRoom : Nat := 1
abbrev c_BadMove : Nat := 2
abbrev c_Teller : Nat := 3
def b__wall : Sts :=
  (.cons (.while_ (.lit (.bl true)) (.cons .pass
  .nil))
  .nil)
def b_distance : Sts :=
  (.cons (.ret (.bi .max (.cons (.bi .abs (.cons (.bin .sub (.idx (.var 0) (.lit (.int 0))) (.idx (.var 1) (.lit (.int 0)))) .nil)) (.cons (.bi .abs (.cons (.bin .sub (.idx (.var 0) (.lit (.int 1))) (.idx (.var 1) (.lit (.int 1)))) .nil)) .nil))))
  .nil)
def b_nearest : Sts :=
  (.cons (.ret (.bt .tuple (.cons (.comp (.tp [3, 4]) (.seq (.slc (.bi .sorted (.cons (.comp (.nm 5) (.seq (.var 0)) .no (.tup (.cons (.call 1 (.cons (.idx (.var 5) (.lit (.int 1))) (.cons (.var 1) .nil))) (.cons (.idx (.var 5) (.lit (.int 0))) .nil))) [5]) .nil)) .no (.var 2))) .no (.var 4) [3, 4]) .nil)))
  .nil)
def b_chosen : Sts :=
  (.cons (.asg (.nm 5) (.lstR .nil))
  (.cons (.for_ (.tp [6, 7, 8, 9]) (.seq (.var 0)) (.cons (.asg (.nm 10) (.call 1 (.cons (.var 7) (.cons (.var 1) .nil))))
  (.cons (.ite (.cmp .mem (.var 6) (.var 2)) (.cons (.asg (.nm 10) (.bin .sub (.var 10) (.var 4)))
  .nil) .nil)
  (.cons (.exp (.mth .append (.var 5) (.cons (.tup (.cons (.var 10) (.cons (.var 6) .nil))) .nil)))
  .nil))))
  (.cons (.ret (.bt .tuple (.cons (.bi .sorted (.cons (.comp (.tp [10, 6]) (.seq (.slc (.bi .sorted (.cons (.var 5) .nil)) .no (.var 3))) .no (.var 6) [6, 10]) .nil)) .nil)))
  .nil)))
def b_chosen_on : Sts :=
  (.cons (.asg (.nm 4) (.lstR .nil))
  (.cons (.asg (.nm 5) (.tup .nil))
  (.cons (.for_ (.nm 6) (.seq (.var 0)) (.cons (.asg (.nm 5) (.call 3 (.cons (.var 6) (.cons (.var 1) (.cons (.var 5) (.cons (.var 2) (.cons (.var 3) .nil)))))))
  (.cons (.exp (.mth .append (.var 4) (.cons (.var 5) .nil)))
  .nil)))
  (.cons (.ret (.bt .tuple (.cons (.var 4) .nil)))
  .nil))))
def b_flickers : Sts :=
  (.cons (.asg (.nm 1) (.lit (.int 0)))
  (.cons (.for_ (.tp [2, 3]) (.zip (.slc (.var 0) .no (.neg (.lit (.int 1)))) (.slc (.var 0) (.lit (.int 1)) .no)) (.cons (.asg (.nm 1) (.bin .add (.var 1) (.bi .len (.cons (.comp (.nm 4) (.seq (.var 2)) (.cmp .nmem (.var 4) (.var 3)) (.var 4) [4]) .nil))))
  (.cons (.asg (.nm 1) (.bin .add (.var 1) (.bi .len (.cons (.comp (.nm 4) (.seq (.var 3)) (.cmp .nmem (.var 4) (.var 2)) (.var 4) [4]) .nil))))
  .nil)))
  (.cons (.ret (.var 1))
  .nil)))
def b_divisor : Sts :=
  (.cons (.while_ (.cmp .ne (.var 1) (.lit (.int 0))) (.cons (.asg (.tp [0, 1]) (.tup (.cons (.var 1) (.cons (.bin .mod (.var 0) (.var 1)) .nil))))
  .nil))
  (.cons (.ret (.bi .abs (.cons (.var 0) .nil)))
  .nil))
def b_fraction : Sts :=
  (.cons (.asg (.nm 2) (.call 6 (.cons (.var 0) (.cons (.var 1) .nil))))
  (.cons (.ite (.cmp .lt (.var 1) (.lit (.int 0))) (.cons (.asg (.nm 2) (.bin .sub (.lit (.int 0)) (.var 2)))
  .nil) .nil)
  (.cons (.ret (.tup (.cons (.bin .fdiv (.var 0) (.var 2)) (.cons (.bin .fdiv (.var 1) (.var 2)) .nil))))
  .nil)))
def b_is_less : Sts :=
  (.cons (.ret (.cmp .lt (.bin .mul (.idx (.var 0) (.lit (.int 0))) (.idx (.var 1) (.lit (.int 1)))) (.bin .mul (.idx (.var 1) (.lit (.int 0))) (.idx (.var 0) (.lit (.int 1))))))
  .nil)
def b_lesser : Sts :=
  (.cons (.ite (.call 8 (.cons (.var 1) (.cons (.var 0) .nil))) (.cons (.ret (.var 1))
  .nil) .nil)
  (.cons (.ret (.var 0))
  .nil))
def b_greater : Sts :=
  (.cons (.ite (.call 8 (.cons (.var 0) (.cons (.var 1) .nil))) (.cons (.ret (.var 1))
  .nil) .nil)
  (.cons (.ret (.var 0))
  .nil))
def b_within : Sts :=
  (.cons (.ite (.cmp .eq (.var 0) (.var 1)) (.cons (.ite (.cmp .le (.bi .abs (.cons (.var 0) .nil)) (.var 2)) (.cons (.ret (.tup (.cons (.tup (.cons (.lit (.int 0)) (.cons (.lit (.int 1)) .nil))) (.cons (.tup (.cons (.lit (.int 1)) (.cons (.lit (.int 1)) .nil))) .nil))))
  .nil) .nil)
  (.cons (.ret (.lit .non))
  .nil)) .nil)
  (.cons (.asg (.nm 3) (.call 7 (.cons (.bin .sub (.bin .sub (.lit (.int 0)) (.var 2)) (.var 0)) (.cons (.bin .sub (.var 1) (.var 0)) .nil))))
  (.cons (.asg (.nm 4) (.call 7 (.cons (.bin .sub (.var 2) (.var 0)) (.cons (.bin .sub (.var 1) (.var 0)) .nil))))
  (.cons (.ite (.call 8 (.cons (.var 4) (.cons (.var 3) .nil))) (.cons (.asg (.tp [3, 4]) (.tup (.cons (.var 4) (.cons (.var 3) .nil))))
  .nil) .nil)
  (.cons (.asg (.nm 3) (.call 10 (.cons (.var 3) (.cons (.tup (.cons (.lit (.int 0)) (.cons (.lit (.int 1)) .nil))) .nil))))
  (.cons (.asg (.nm 4) (.call 9 (.cons (.var 4) (.cons (.tup (.cons (.lit (.int 1)) (.cons (.lit (.int 1)) .nil))) .nil))))
  (.cons (.ite (.call 8 (.cons (.var 4) (.cons (.var 3) .nil))) (.cons (.ret (.lit .non))
  .nil) .nil)
  (.cons (.ret (.tup (.cons (.var 3) (.cons (.var 4) .nil))))
  .nil))))))))
def b_when_near : Sts :=
  (.cons (.asg (.nm 3) (.tup (.cons (.tup (.cons (.lit (.int 0)) (.cons (.lit (.int 1)) .nil))) (.cons (.tup (.cons (.lit (.int 1)) (.cons (.lit (.int 1)) .nil))) .nil))))
  (.cons (.for_ (.nm 4) (.range1 (.lit (.int 2))) (.cons (.asg (.nm 5) (.call 11 (.cons (.bin .sub (.idx (.idx (.var 0) (.lit (.int 0))) (.var 4)) (.idx (.idx (.var 1) (.lit (.int 0))) (.var 4))) (.cons (.bin .sub (.idx (.idx (.var 0) (.lit (.int 1))) (.var 4)) (.idx (.idx (.var 1) (.lit (.int 1))) (.var 4))) (.cons (.var 2) .nil)))))
  (.cons (.ite (.cmp .is (.var 5) (.lit .non)) (.cons (.ret (.lit .non))
  .nil) .nil)
  (.cons (.asg (.nm 3) (.tup (.cons (.call 10 (.cons (.idx (.var 3) (.lit (.int 0))) (.cons (.idx (.var 5) (.lit (.int 0))) .nil))) (.cons (.call 9 (.cons (.idx (.var 3) (.lit (.int 1))) (.cons (.idx (.var 5) (.lit (.int 1))) .nil))) .nil))))
  .nil))))
  (.cons (.ite (.call 8 (.cons (.idx (.var 3) (.lit (.int 1))) (.cons (.idx (.var 3) (.lit (.int 0))) .nil))) (.cons (.ret (.lit .non))
  .nil) .nil)
  (.cons (.ret (.var 3))
  .nil))))
def b_changes : Sts :=
  (.cons (.asg (.nm 5) (.lstR .nil))
  (.cons (.asg (.nm 6) (.tup (.cons (.lit (.int 0)) (.cons (.lit (.int 1)) .nil))))
  (.cons (.ite (.not (.var 0)) (.cons (.asg (.nm 7) (.call 12 (.cons (.var 1) (.cons (.var 2) (.cons (.var 3) .nil)))))
  (.cons (.ite (.cmp .is (.var 7) (.lit .non)) (.cons (.ret (.tup .nil))
  .nil) .nil)
  (.cons (.exp (.mth .append (.var 5) (.cons (.tup (.cons (.idx (.var 7) (.lit (.int 0))) (.cons (.lit (.bl true)) .nil))) .nil)))
  (.cons (.asg (.nm 6) (.idx (.var 7) (.lit (.int 0))))
  .nil)))) .nil)
  (.cons (.asg (.nm 8) (.call 12 (.cons (.var 1) (.cons (.var 2) (.cons (.bin .add (.var 3) (.var 4)) .nil)))))
  (.cons (.ite (.or (.cmp .is (.var 8) (.lit .non)) (.one (.call 8 (.cons (.idx (.var 8) (.lit (.int 1))) (.cons (.var 6) .nil))))) (.cons (.exp (.mth .append (.var 5) (.cons (.tup (.cons (.var 6) (.cons (.lit (.bl false)) .nil))) .nil)))
  .nil) (.cons (.ite (.cmp .ne (.idx (.var 8) (.lit (.int 1))) (.tup (.cons (.lit (.int 1)) (.cons (.lit (.int 1)) .nil)))) (.cons (.exp (.mth .append (.var 5) (.cons (.tup (.cons (.idx (.var 8) (.lit (.int 1))) (.cons (.lit (.bl false)) .nil))) .nil)))
  .nil) .nil)
  .nil))
  (.cons (.ret (.bt .tuple (.cons (.var 5) .nil)))
  .nil))))))
def b_beside : Sts :=
  (.cons (.ret (.bt .tuple (.cons (.bi .sorted (.cons (.comp (.tp [2, 3]) (.seq (.var 0)) (.cmp .mem (.var 1) (.tup (.cons (.var 2) (.cons (.var 3) .nil)))) (.bin .sub (.bin .add (.var 2) (.var 3)) (.var 1)) [2, 3]) .nil)) .nil)))
  .nil)
def b_steps : Sts :=
  (.cons (.asg (.nm 2) (.dKs (.cons (.var 1) (.cons (.lit (.int 0)) .nil))))
  (.cons (.asg (.nm 3) (.lstR (.cons (.var 1) .nil)))
  (.cons (.while_ (.var 3) (.cons (.asg (.nm 4) (.mth .popL (.var 3) (.cons (.lit (.int 0)) .nil)))
  (.cons (.for_ (.nm 5) (.seq (.call 14 (.cons (.var 0) (.cons (.var 4) .nil)))) (.cons (.ite (.cmp .nmem (.var 5) (.var 2)) (.cons (.setI (.var 2) (.var 5) (.bin .add (.idx (.var 2) (.var 4)) (.lit (.int 1))))
  (.cons (.exp (.mth .append (.var 3) (.cons (.var 5) .nil)))
  .nil)) .nil)
  .nil))
  .nil)))
  (.cons (.ret (.bt .ptuple (.cons (.comp (.nm 6) (.seq (.bi .sorted (.cons (.var 2) .nil))) .no (.tup (.cons (.var 6) (.cons (.idx (.var 2) (.var 6)) .nil))) [6]) .nil)))
  .nil))))
def b_reach : Sts :=
  (.cons (.ret (.bt .tuple (.cons (.comp (.tp [3, 4]) (.seq (.call 15 (.cons (.var 0) (.cons (.var 1) .nil)))) (.cmp .le (.var 4) (.var 2)) (.var 3) [3, 4]) .nil)))
  .nil)
def b_opened : Sts :=
  (.cons (.ite (.cmp .eq (.var 1) (.var 2)) (.cons (.raise_ 1)
  .nil) .nil)
  (.cons (.asg (.nm 3) (.tup (.cons (.bi .min (.cons (.var 1) (.cons (.var 2) .nil))) (.cons (.bi .max (.cons (.var 1) (.cons (.var 2) .nil))) .nil))))
  (.cons (.ret (.bt .tuple (.cons (.sset (.bin .add (.var 0) (.tup (.cons (.var 3) .nil)))) .nil)))
  .nil)))
def b_shut : Sts :=
  (.cons (.asg (.nm 3) (.tup (.cons (.bi .min (.cons (.var 1) (.cons (.var 2) .nil))) (.cons (.bi .max (.cons (.var 1) (.cons (.var 2) .nil))) .nil))))
  (.cons (.ite (.cmp .nmem (.var 3) (.var 0)) (.cons (.raise_ 1)
  .nil) .nil)
  (.cons (.ret (.bt .tuple (.cons (.comp (.nm 4) (.seq (.var 0)) (.cmp .ne (.var 4) (.var 3)) (.var 4) [4]) .nil)))
  .nil)))
def b_is_ahead : Sts :=
  (.cons (.ite (.cmp .ne (.idx (.var 0) (.lit (.int 0))) (.idx (.var 1) (.lit (.int 0)))) (.cons (.ret (.call 8 (.cons (.idx (.var 0) (.lit (.int 0))) (.cons (.idx (.var 1) (.lit (.int 0))) .nil))))
  .nil) .nil)
  (.cons (.ret (.cmp .lt (.slc (.var 0) (.lit (.int 2)) .no) (.slc (.var 1) (.lit (.int 2)) .no)))
  .nil))
def b_sorted_rows : Sts :=
  (.cons (.asg (.nm 1) (.lstR .nil))
  (.cons (.for_ (.nm 2) (.seq (.var 0)) (.cons (.asg (.nm 3) (.bi .len (.cons (.var 1) .nil)))
  (.cons (.while_ (.and (.cmp .gt (.var 3) (.lit (.int 0))) (.one (.call 19 (.cons (.var 2) (.cons (.idx (.var 1) (.bin .sub (.var 3) (.lit (.int 1)))) .nil))))) (.cons (.asg (.nm 3) (.bin .sub (.var 3) (.lit (.int 1))))
  .nil))
  (.cons (.exp (.mth .insert (.var 1) (.cons (.var 3) (.cons (.var 2) .nil))))
  .nil))))
  (.cons (.ret (.var 1))
  .nil)))
def b__law_draw : Sts :=
  (.cons (.exp (.mth .append (.var 1) (.cons (.lit (.int 0)) .nil)))
  (.cons (.asg (.nm 3) (.bi .len (.cons (.var 1) .nil)))
  (.cons (.asg (.nm 4) (.lit (.int 0)))
  (.cons (.ite (.var 0) (.cons (.asg (.nm 4) (.idx (.var 0) (.bin .mod (.var 3) (.bi .len (.cons (.var 0) .nil)))))
  .nil) .nil)
  (.cons (.asg (.nm 5) (.bin .mod (.bin .add (.var 4) (.bin .mul (.lit (.int 104729)) (.var 3))) (.lit (.int 4294967291))))
  (.cons (.asg (.nm 5) (.bin .mod (.bin .mul (.bin .mod (.bin .mul (.var 5) (.var 5)) (.lit (.int 4294967279))) (.lit (.int 48271))) (.lit (.int 4294967291))))
  (.cons (.asg (.nm 6) (.bin .mod (.bin .mul (.bin .mod (.bin .mul (.var 5) (.var 5)) (.lit (.int 4294967279))) (.lit (.int 69621))) (.lit (.int 4294967291))))
  (.cons (.ret (.bin .mod (.bin .add (.bin .mul (.bin .fdiv (.var 5) (.lit (.int 64))) (.lit (.int 67108864))) (.bin .fdiv (.var 6) (.lit (.int 64)))) (.var 2)))
  .nil))))))))
def b__law_pick : Sts :=
  (.cons (.ret (.idx (.var 2) (.call 21 (.cons (.var 0) (.cons (.var 1) (.cons (.bi .len (.cons (.var 2) .nil)) .nil))))))
  .nil)
def b__law_board : Sts :=
  (.cons (.asg (.nm 4) (.lstR .nil))
  (.cons (.lk (.var 2) (.for_ (.nm 5) (.keys (.var 2)) (.cons (.asg (.nm 6) (.bin .add (.idx (.var 2) (.var 5)) (.call 21 (.cons (.var 0) (.cons (.var 1) (.cons (.bin .add (.var 3) (.lit (.int 1))) .nil))))))
  (.cons (.exp (.mth .append (.var 4) (.cons (.tup (.cons (.var 5) (.cons (.tup (.cons (.bin .add (.lit (.int 100)) (.var 6)) (.cons (.bin .add (.lit (.int 100)) (.bin .mul (.call 21 (.cons (.var 0) (.cons (.var 1) (.cons (.lit (.int 2)) .nil)))) (.var 6))) .nil))) (.cons (.lit (.int 0)) (.cons (.lit .non) .nil))))) .nil)))
  .nil))))
  (.cons (.ret (.bt .tuple (.cons (.var 4) .nil)))
  .nil)))
def b__law_keeps : Sts :=
  (.cons (.asg (.nm 4) (.bt .dict (.cons (.comp (.nm 8) (.seq (.var 0)) .no (.tup (.cons (.idx (.var 8) (.lit (.int 0))) (.cons (.call 1 (.cons (.idx (.var 8) (.lit (.int 1))) (.cons (.tup (.cons (.lit (.int 100)) (.cons (.lit (.int 100)) .nil))) .nil))) .nil))) [8]) .nil)))
  (.cons (.asg (.nm 5) (.bt .dict (.cons (.lk (.var 4) (.comp (.nm 7) (.keys (.var 4)) .no (.tup (.cons (.var 7) (.cons (.bin .sub (.idx (.var 4) (.var 7)) (.ite (.cmp .mem (.var 7) (.var 1)) (.var 3) (.lit (.int 0)))) .nil))) [7])) .nil)))
  (.cons (.lk (.var 4) (.asg (.nm 6) (.comp (.nm 7) (.keys (.var 4)) (.cmp .nmem (.var 7) (.var 2)) (.idx (.var 5) (.var 7)) [7])))
  (.cons (.ret (.or (.not (.var 6)) (.one (.cmp .le (.bi .max (.cons (.comp (.nm 7) (.seq (.var 2)) .no (.idx (.var 5) (.var 7)) [7]) .nil)) (.bi .min (.cons (.var 6) .nil))))))
  .nil))))
def b__law_all_known : Sts :=
  (.cons (.asg (.nm 3) (.make 3 27 (.cons (.tup .nil) .nil)))
  (.cons (.exp (.meth 3 "come" 38 (.var 3) (.cons (.lit (.int 50)) (.cons (.tup (.cons (.lit (.int 100)) (.cons (.lit (.int 100)) .nil))) (.cons (.lit (.int 0)) (.cons (.lit .non) .nil))))))
  (.cons (.for_ (.tp [4, 5, 6, 7]) (.seq (.idx (.var 0) (.lit (.int 0)))) (.cons (.exp (.meth 3 "come" 38 (.var 3) (.cons (.var 4) (.cons (.var 5) (.cons (.var 6) (.cons (.var 7) .nil))))))
  .nil))
  (.cons (.exp (.meth 3 "listen" 39 (.var 3) (.cons (.lit (.int 50)) (.cons (.tup (.cons (.lit (.int 60)) (.cons (.var 2) (.cons (.lit (.int 0)) .nil)))) .nil))))
  (.cons (.for_ (.nm 8) (.seq (.var 0)) (.cons (.ite (.or (.cmp .ne (.meth 3 "turn" 45 (.var 3) (.cons (.bt .tuple (.cons (.comp (.nm 9) (.seq (.var 8)) .no (.slc (.var 9) .no (.lit (.int 2))) [9]) .nil)) .nil)) (.tup .nil)) (.one (.cmp .ne (.meth 3 "knows" 31 (.var 3) (.cons (.lit (.int 50)) .nil)) (.bt .tuple (.cons (.bi .sorted (.cons (.var 1) .nil)) .nil))))) (.cons (.ret (.lit (.bl false)))
  .nil) .nil)
  .nil))
  (.cons (.ret (.lit (.bl true)))
  .nil))))))
def b_law : Sts :=
  (.cons (.asg (.nm 1) (.lstR .nil))
  (.cons (.for_ (.nm 2) (.range1 (.lit (.int 4))) (.cons (.asg (.nm 3) (.call 21 (.cons (.var 0) (.cons (.var 1) (.cons (.lit (.int 9)) .nil)))))
  (.cons (.asg (.nm 4) .dK)
  (.cons (.for_ (.nm 5) (.range1 (.bin .add (.lit (.int 2)) (.call 21 (.cons (.var 0) (.cons (.var 1) (.cons (.lit (.int 8)) .nil)))))) (.cons (.setI (.var 4) (.var 5) (.bin .add (.lit (.int 5)) (.bin .mul (.lit (.int 2)) (.call 21 (.cons (.var 0) (.cons (.var 1) (.cons (.lit (.int 20)) .nil)))))))
  .nil))
  (.cons (.asg (.tp [6, 7]) (.tup (.cons (.tup .nil) (.cons (.bin .add (.lit (.int 1)) (.call 21 (.cons (.var 0) (.cons (.var 1) (.cons (.lit (.int 5)) .nil))))) .nil))))
  (.cons (.for_ (.nm 8) (.range1 (.lit (.int 12))) (.cons (.asg (.nm 6) (.bin .add (.var 6) (.tup (.cons (.call 23 (.cons (.var 0) (.cons (.var 1) (.cons (.var 4) (.cons (.var 3) .nil))))) .nil))))
  .nil))
  (.cons (.asg (.nm 9) (.call 4 (.cons (.var 6) (.cons (.tup (.cons (.lit (.int 100)) (.cons (.lit (.int 100)) .nil))) (.cons (.var 7) (.cons (.bin .mul (.lit (.int 2)) (.var 3)) .nil))))))
  (.cons (.ite (.bi .any (.cons (.comp (.nm 13) (.seq (.var 9)) .no (.cmp .ne (.bt .list (.cons (.var 13) .nil)) (.bi .sorted (.cons (.var 13) .nil))) [13]) .nil)) (.cons (.ret (.lit (.bl false)))
  .nil) .nil)
  (.cons (.ite (.cmp .ne (.idx (.call 4 (.cons (.var 6) (.cons (.tup (.cons (.lit (.int 100)) (.cons (.lit (.int 100)) .nil))) (.cons (.lit (.int 9)) (.cons (.lit (.int 0)) .nil))))) (.lit (.int 0))) (.bt .tuple (.cons (.bi .sorted (.cons (.var 4) .nil)) .nil))) (.cons (.ret (.lit (.bl false)))
  .nil) .nil)
  (.cons (.for_ (.nm 10) (.range2 (.lit (.int 1)) (.bi .len (.cons (.var 6) .nil))) (.cons (.ite (.not (.call 24 (.cons (.idx (.var 6) (.var 10)) (.cons (.idx (.var 9) (.bin .sub (.var 10) (.lit (.int 1)))) (.cons (.idx (.var 9) (.var 10)) (.cons (.bin .mul (.lit (.int 2)) (.var 3)) .nil)))))) (.cons (.ret (.lit (.bl false)))
  .nil) .nil)
  .nil))
  (.cons (.asg (.nm 11) (.call 4 (.cons (.bin .mul (.slc (.var 6) .no (.lit (.int 1))) (.lit (.int 5))) (.cons (.tup (.cons (.lit (.int 100)) (.cons (.lit (.int 100)) .nil))) (.cons (.var 7) (.cons (.var 3) .nil))))))
  (.cons (.ite (.or (.cmp .ne (.call 5 (.cons (.var 11) .nil)) (.lit (.int 0))) (.one (.cmp .ne (.call 5 (.cons (.call 4 (.cons (.var 6) (.cons (.tup (.cons (.lit (.int 100)) (.cons (.lit (.int 100)) .nil))) (.cons (.lit (.int 9)) (.cons (.lit (.int 0)) .nil))))) .nil)) (.lit (.int 0))))) (.cons (.ret (.lit (.bl false)))
  .nil) .nil)
  (.cons (.asg (.nm 12) (.call 4 (.cons (.var 6) (.cons (.tup (.cons (.lit (.int 100)) (.cons (.lit (.int 100)) .nil))) (.cons (.var 7) (.cons (.lit (.int 0)) .nil))))))
  (.cons (.ite (.cmp .ne (.var 12) (.bt .tuple (.cons (.comp (.nm 14) (.seq (.var 6)) .no (.bt .tuple (.cons (.bi .sorted (.cons (.call 2 (.cons (.var 14) (.cons (.tup (.cons (.lit (.int 100)) (.cons (.lit (.int 100)) .nil))) (.cons (.var 7) .nil)))) .nil)) .nil)) [14]) .nil))) (.cons (.ret (.lit (.bl false)))
  .nil) .nil)
  (.cons (.ite (.cmp .ne (.call 3 (.cons (.idx (.var 6) (.lit (.int 0))) (.cons (.tup (.cons (.lit (.int 100)) (.cons (.lit (.int 100)) .nil))) (.cons (.tup .nil) (.cons (.var 7) (.cons (.lit (.int 99)) .nil)))))) (.idx (.var 12) (.lit (.int 0)))) (.cons (.ret (.lit (.bl false)))
  .nil) .nil)
  (.cons (.ite (.not (.call 25 (.cons (.var 6) (.cons (.var 4) (.cons (.var 3) .nil))))) (.cons (.ret (.lit (.bl false)))
  .nil) .nil)
  .nil))))))))))))))))
  (.cons (.ret (.lit (.bl true)))
  .nil)))
def b_Teller___init__ : Sts :=
  (.cons (.setF (.var 0) 3 "doors" (.var 1))
  (.cons (.setF (.var 0) 3 "things" .dK)
  (.cons (.setF (.var 0) 3 "sights" .dK)
  (.cons (.setF (.var 0) 3 "known" .dK)
  .nil))))
def b_Teller_need : Sts :=
  (.cons (.ite (.cmp .nmem (.var 1) (.fld (.var 0) 3 "things")) (.cons (.raise_ 0)
  .nil) .nil)
  .nil)
def b_Teller_board : Sts :=
  (.cons (.ret (.bt .tuple (.cons (.comp (.nm 1) (.seq (.bi .sorted (.cons (.fld (.var 0) 3 "things") .nil))) .no (.bin .add (.tup (.cons (.var 1) .nil)) (.idx (.fld (.var 0) 3 "things") (.var 1))) [1]) .nil)))
  .nil)
def b_Teller_hearers : Sts :=
  (.cons (.ret (.bt .tuple (.cons (.bi .sorted (.cons (.fld (.var 0) 3 "sights") .nil)) .nil)))
  .nil)
def b_Teller_knows : Sts :=
  (.cons (.ite (.cmp .nmem (.var 1) (.fld (.var 0) 3 "sights")) (.cons (.raise_ 0)
  .nil) .nil)
  (.cons (.ret (.bt .tuple (.cons (.bi .sorted (.cons (.idx (.fld (.var 0) 3 "known") (.var 1)) .nil)) .nil)))
  .nil))
def b_Teller_known_by : Sts :=
  (.cons (.exp (.meth 3 "need" 28 (.var 0) (.cons (.var 1) .nil)))
  (.cons (.ret (.bt .tuple (.cons (.comp (.nm 2) (.seq (.meth 3 "hearers" 30 (.var 0) .nil)) (.cmp .mem (.var 1) (.idx (.fld (.var 0) 3 "known") (.var 2))) (.var 2) [2]) .nil)))
  .nil))
def b_Teller_is_joined : Sts :=
  (.cons (.ret (.and (.cmp .isnot (.idx (.idx (.fld (.var 0) 3 "things") (.var 1)) (.lit (.int 2))) (.lit .non)) (.one (.cmp .eq (.idx (.idx (.fld (.var 0) 3 "things") (.var 1)) (.lit (.int 2))) (.idx (.idx (.fld (.var 0) 3 "things") (.var 2)) (.lit (.int 2)))))))
  .nil)
def b_Teller_can_hear : Sts :=
  (.cons (.asg (.nm 3) (.call 16 (.cons (.fld (.var 0) 3 "doors") (.cons (.idx (.idx (.fld (.var 0) 3 "things") (.var 1)) (.lit (.int 1))) (.cons (.idx (.idx (.fld (.var 0) 3 "sights") (.var 1)) (.lit (.int 2))) .nil)))))
  (.cons (.ret (.cmp .mem (.idx (.idx (.fld (.var 0) 3 "things") (.var 2)) (.lit (.int 1))) (.var 3)))
  .nil))
def b_Teller_fits : Sts :=
  (.cons (.ite (.meth 3 "is_joined" 33 (.var 0) (.cons (.var 1) (.cons (.var 2) .nil))) (.cons (.ret (.lit (.bl true)))
  .nil) .nil)
  (.cons (.ite (.not (.meth 3 "can_hear" 34 (.var 0) (.cons (.var 1) (.cons (.var 2) .nil)))) (.cons (.ret (.lit (.bl false)))
  .nil) .nil)
  (.cons (.asg (.tp [3, 4, 5]) (.idx (.fld (.var 0) 3 "sights") (.var 1)))
  (.cons (.ite (.cmp .mem (.var 2) (.idx (.fld (.var 0) 3 "known") (.var 1))) (.cons (.asg (.nm 3) (.bin .add (.var 3) (.var 4)))
  .nil) .nil)
  (.cons (.ret (.cmp .le (.call 1 (.cons (.idx (.idx (.fld (.var 0) 3 "things") (.var 1)) (.lit (.int 0))) (.cons (.idx (.idx (.fld (.var 0) 3 "things") (.var 2)) (.lit (.int 0))) .nil))) (.var 3)))
  .nil)))))
def b_Teller_settled : Sts :=
  (.cons (.asg (.nm 2) (.lstR .nil))
  (.cons (.for_ (.nm 3) (.seq (.meth 3 "hearers" 30 (.var 0) .nil)) (.cons (.for_ (.nm 4) (.seq (.bi .sorted (.cons (.fld (.var 0) 3 "things") .nil))) (.cons (.ite (.cmp .ne (.var 4) (.var 3)) (.cons (.asg (.nm 5) (.cmp .mem (.var 4) (.idx (.fld (.var 0) 3 "known") (.var 3))))
  (.cons (.ite (.cmp .ne (.meth 3 "fits" 35 (.var 0) (.cons (.var 3) (.cons (.var 4) .nil))) (.var 5)) (.cons (.exp (.mth .append (.var 2) (.cons (.tup (.cons (.var 1) (.cons (.meth 3 "turn_pair" 37 (.var 0) (.cons (.var 3) (.cons (.var 4) (.cons (.not (.var 5)) .nil)))) (.cons (.var 3) (.cons (.var 4) .nil))))) .nil)))
  .nil) .nil)
  .nil)) .nil)
  .nil))
  .nil))
  (.cons (.ret (.bt .tuple (.cons (.var 2) .nil)))
  .nil)))
def b_Teller_turn_pair : Sts :=
  (.cons (.ite (.var 3) (.cons (.setI (.idx (.fld (.var 0) 3 "known") (.var 1)) (.var 2) (.lit (.bl true)))
  (.cons (.ret (.lit (.str "met")))
  .nil)) .nil)
  (.cons (.exp (.mth .dpop (.idx (.fld (.var 0) 3 "known") (.var 1)) (.cons (.var 2) .nil)))
  (.cons (.ret (.lit (.str "lost")))
  .nil)))
def b_Teller_come : Sts :=
  (.cons (.ite (.cmp .mem (.var 1) (.fld (.var 0) 3 "things")) (.cons (.raise_ 2)
  .nil) .nil)
  (.cons (.setI (.fld (.var 0) 3 "things") (.var 1) (.tup (.cons (.var 2) (.cons (.var 3) (.cons (.var 4) .nil)))))
  (.cons (.ret (.meth 3 "settled" 36 (.var 0) (.cons (.glo "START" (.tup [0, 1])) .nil)))
  .nil)))
def b_Teller_listen : Sts :=
  (.cons (.exp (.meth 3 "need" 28 (.var 0) (.cons (.var 1) .nil)))
  (.cons (.setI (.fld (.var 0) 3 "sights") (.var 1) (.var 2))
  (.cons (.exp (.mth .setdef (.fld (.var 0) 3 "known") (.cons (.var 1) (.cons .dK .nil))))
  (.cons (.ret (.meth 3 "settled" 36 (.var 0) (.cons (.glo "START" (.tup [0, 1])) .nil)))
  .nil))))
def b_Teller_deaf : Sts :=
  (.cons (.exp (.call 0 (.cons (.lit (.int 0)) .nil)))
  .nil)
def b_Teller_go : Sts :=
  (.cons (.exp (.call 0 (.cons (.lit (.int 1)) .nil)))
  .nil)
def b_Teller_room : Sts :=
  (.cons (.exp (.meth 3 "need" 28 (.var 0) (.cons (.var 1) .nil)))
  (.cons (.asg (.tp [3, 4, 5]) (.idx (.fld (.var 0) 3 "things") (.var 1)))
  (.cons (.setI (.fld (.var 0) 3 "things") (.var 1) (.tup (.cons (.var 3) (.cons (.var 2) (.cons (.var 5) .nil)))))
  (.cons (.ret (.meth 3 "settled" 36 (.var 0) (.cons (.glo "START" (.tup [0, 1])) .nil)))
  .nil))))
def b_Teller_group : Sts :=
  (.cons (.exp (.meth 3 "need" 28 (.var 0) (.cons (.var 1) .nil)))
  (.cons (.asg (.tp [3, 4, 5]) (.idx (.fld (.var 0) 3 "things") (.var 1)))
  (.cons (.setI (.fld (.var 0) 3 "things") (.var 1) (.tup (.cons (.var 3) (.cons (.var 4) (.cons (.var 2) .nil)))))
  (.cons (.ret (.meth 3 "settled" 36 (.var 0) (.cons (.glo "START" (.tup [0, 1])) .nil)))
  .nil))))
def b_Teller_door : Sts :=
  (.cons (.ite (.var 3) (.cons (.setF (.var 0) 3 "doors" (.call 17 (.cons (.fld (.var 0) 3 "doors") (.cons (.var 1) (.cons (.var 2) .nil)))))
  .nil) (.cons (.setF (.var 0) 3 "doors" (.call 18 (.cons (.fld (.var 0) 3 "doors") (.cons (.var 1) (.cons (.var 2) .nil)))))
  .nil))
  (.cons (.ret (.meth 3 "settled" 36 (.var 0) (.cons (.glo "START" (.tup [0, 1])) .nil)))
  .nil))
def b_Teller_turn : Sts :=
  (.cons (.asg (.nm 2) .dK)
  (.cons (.for_ (.tp [3, 4]) (.seq (.var 1)) (.cons (.exp (.meth 3 "need" 28 (.var 0) (.cons (.var 3) .nil)))
  (.cons (.ite (.cmp .mem (.var 3) (.var 2)) (.cons (.raise_ 2)
  .nil) .nil)
  (.cons (.setI (.var 2) (.var 3) (.var 4))
  .nil))))
  (.cons (.asg (.nm 5) (.lstR .nil))
  (.cons (.for_ (.nm 6) (.seq (.meth 3 "hearers" 30 (.var 0) .nil)) (.cons (.for_ (.nm 3) (.seq (.bi .sorted (.cons (.fld (.var 0) 3 "things") .nil))) (.cons (.ite (.and (.cmp .ne (.var 3) (.var 6)) (.and (.not (.meth 3 "is_joined" 33 (.var 0) (.cons (.var 6) (.cons (.var 3) .nil)))) (.one (.meth 3 "can_hear" 34 (.var 0) (.cons (.var 6) (.cons (.var 3) .nil)))))) (.cons (.exp (.mth .extend (.var 5) (.cons (.meth 3 "pair_turn" 46 (.var 0) (.cons (.var 6) (.cons (.var 3) (.cons (.var 2) .nil)))) .nil)))
  .nil) .nil)
  .nil))
  .nil))
  (.cons (.lk (.var 2) (.for_ (.nm 3) (.keys (.var 2)) (.cons (.asg (.tp [4, 7, 8]) (.idx (.fld (.var 0) 3 "things") (.var 3)))
  (.cons (.setI (.fld (.var 0) 3 "things") (.var 3) (.tup (.cons (.idx (.var 2) (.var 3)) (.cons (.var 7) (.cons (.var 8) .nil)))))
  .nil))))
  (.cons (.ret (.bt .tuple (.cons (.call 20 (.cons (.var 5) .nil)) .nil)))
  .nil))))))
def b_Teller_pair_turn : Sts :=
  (.cons (.asg (.tp [4, 5, 6]) (.idx (.fld (.var 0) 3 "sights") (.var 1)))
  (.cons (.asg (.nm 7) (.comp (.nm 11) (.seq (.tup (.cons (.var 1) (.cons (.var 2) .nil)))) .no (.tup (.cons (.idx (.idx (.fld (.var 0) 3 "things") (.var 11)) (.lit (.int 0))) (.cons (.mth .dget (.var 3) (.cons (.var 11) (.cons (.idx (.idx (.fld (.var 0) 3 "things") (.var 11)) (.lit (.int 0))) .nil))) .nil))) [11]))
  (.cons (.asg (.nm 8) (.lstR .nil))
  (.cons (.for_ (.tp [9, 10]) (.seq (.call 13 (.cons (.cmp .mem (.var 2) (.idx (.fld (.var 0) 3 "known") (.var 1))) (.cons (.idx (.var 7) (.lit (.int 0))) (.cons (.idx (.var 7) (.lit (.int 1))) (.cons (.var 4) (.cons (.var 5) .nil))))))) (.cons (.exp (.mth .append (.var 8) (.cons (.tup (.cons (.var 9) (.cons (.meth 3 "turn_pair" 37 (.var 0) (.cons (.var 1) (.cons (.var 2) (.cons (.var 10) .nil)))) (.cons (.var 1) (.cons (.var 2) .nil))))) .nil)))
  .nil))
  (.cons (.ret (.var 8))
  .nil)))))
def b_Teller_told : Sts :=
  (.cons (.asg (.nm 3) (.idx (.mth .dget (.fld (.var 0) 3 "things") (.cons (.var 1) (.cons (.tup (.cons (.lit .non) .nil)) .nil))) (.lit (.int 0))))
  (.cons (.ret (.bt .tuple (.cons (.comp (.nm 4) (.seq (.meth 3 "known_by" 32 (.var 0) (.cons (.var 1) .nil))) (.cmp .le (.call 1 (.cons (.idx (.idx (.fld (.var 0) 3 "things") (.var 4)) (.lit (.int 0))) (.cons (.var 3) .nil))) (.var 2)) (.var 4) [4]) .nil)))
  .nil))
def f__wall : FI := ⟨"_wall", top 0, ["k"], ["k"], b__wall, none⟩
def f_distance : FI := ⟨"distance", top 2, ["one", "other"], ["one", "other"], b_distance, none⟩
def f_nearest : FI := ⟨"nearest", top 3, ["board", "place", "most", "far", "number", "one"], ["board", "place", "most"], b_nearest, none⟩
def f_chosen : FI := ⟨"chosen", top 5, ["board", "place", "kept", "most", "slack", "rows", "number", "where", "room", "group", "far"], ["board", "place", "kept", "most", "slack"], b_chosen, none⟩
def f_chosen_on : FI := ⟨"chosen_on", top 6, ["boards", "place", "most", "slack", "found", "kept", "board"], ["boards", "place", "most", "slack"], b_chosen_on, none⟩
def f_flickers : FI := ⟨"flickers", top 7, ["rows", "found", "one", "other", "number"], ["rows"], b_flickers, none⟩
def f_divisor : FI := ⟨"divisor", top 14, ["one", "other"], ["one", "other"], b_divisor, none⟩
def f_fraction : FI := ⟨"fraction", top 15, ["upper", "lower", "by"], ["upper", "lower"], b_fraction, none⟩
def f_is_less : FI := ⟨"is_less", top 16, ["one", "other"], ["one", "other"], b_is_less, none⟩
def f_lesser : FI := ⟨"lesser", top 17, ["one", "other"], ["one", "other"], b_lesser, none⟩
def f_greater : FI := ⟨"greater", top 18, ["one", "other"], ["one", "other"], b_greater, none⟩
def f_within : FI := ⟨"within", top 19, ["begin", "end", "far", "first", "last"], ["begin", "end", "far"], b_within, none⟩
def f_when_near : FI := ⟨"when_near", top 20, ["way", "other", "far", "found", "at", "times"], ["way", "other", "far"], b_when_near, none⟩
def f_changes : FI := ⟨"changes", top 21, ["is_known", "way", "other", "far", "slack", "found", "time", "times", "kept"], ["is_known", "way", "other", "far", "slack"], b_changes, none⟩
def f_beside : FI := ⟨"beside", top 23, ["doors", "room", "one", "other"], ["doors", "room"], b_beside, none⟩
def f_steps : FI := ⟨"steps", top 24, ["doors", "room", "found", "todo", "here", "other", "one"], ["doors", "room"], b_steps, none⟩
def f_reach : FI := ⟨"reach", top 25, ["doors", "room", "deep", "one", "many"], ["doors", "room", "deep"], b_reach, none⟩
def f_opened : FI := ⟨"opened", top 26, ["doors", "one", "other", "door"], ["doors", "one", "other"], b_opened, none⟩
def f_shut : FI := ⟨"shut", top 27, ["doors", "one", "other", "door", "one_door"], ["doors", "one", "other"], b_shut, none⟩
def f_is_ahead : FI := ⟨"is_ahead", top 31, ["one", "other"], ["one", "other"], b_is_ahead, none⟩
def f_sorted_rows : FI := ⟨"sorted_rows", top 32, ["rows", "found", "row", "at"], ["rows"], b_sorted_rows, none⟩
def f__law_draw : FI := ⟨"_law_draw", top 34, ["_law_script", "_law_town", "_law_many", "_law_k", "_law_cell", "_law_number", "_law_more"], ["_law_script", "_law_town", "_law_many"], b__law_draw, none⟩
def f__law_pick : FI := ⟨"_law_pick", top 35, ["_law_script", "_law_town", "_law_some"], ["_law_script", "_law_town", "_law_some"], b__law_pick, none⟩
def f__law_board : FI := ⟨"_law_board", top 36, ["_law_script", "_law_town", "_law_rings", "_law_swing", "_law_found", "_law_number", "_law_far"], ["_law_script", "_law_town", "_law_rings", "_law_swing"], b__law_board, none⟩
def f__law_keeps : FI := ⟨"_law_keeps", top 37, ["_law_board_here", "_law_before", "_law_row", "_law_slack", "_law_places", "_law_worths", "_law_out", "_law_number", "_law_thing"], ["_law_board_here", "_law_before", "_law_row", "_law_slack"], b__law_keeps, none⟩
def f__law_all_known : FI := ⟨"_law_all_known", top 38, ["_law_boards", "_law_rings", "_law_swing", "_law_teller", "_law_number", "_law_place", "_law_room", "_law_group", "_law_board_here", "_law_thing"], ["_law_boards", "_law_rings", "_law_swing"], b__law_all_known, none⟩
def f_law : FI := ⟨"law", top 39, ["_law_script", "_law_town", "_law_k", "_law_swing", "_law_rings", "_law_number", "_law_boards", "_law_most", "_law_j", "_law_rows", "_law_at", "_law_still", "_law_bare", "_law_row", "_law_board_here"], ["_law_script"], b_law, none⟩
def f_Teller___init__ : FI := ⟨"__init__", sub 30 0, ["self", "doors"], ["self", "doors"], b_Teller___init__, some "Teller"⟩
def f_Teller_need : FI := ⟨"need", sub 30 1, ["self", "number"], ["self", "number"], b_Teller_need, some "Teller"⟩
def f_Teller_board : FI := ⟨"board", sub 30 2, ["self", "number"], ["self"], b_Teller_board, some "Teller"⟩
def f_Teller_hearers : FI := ⟨"hearers", sub 30 3, ["self"], ["self"], b_Teller_hearers, some "Teller"⟩
def f_Teller_knows : FI := ⟨"knows", sub 30 4, ["self", "number"], ["self", "number"], b_Teller_knows, some "Teller"⟩
def f_Teller_known_by : FI := ⟨"known_by", sub 30 5, ["self", "number", "one"], ["self", "number"], b_Teller_known_by, some "Teller"⟩
def f_Teller_is_joined : FI := ⟨"is_joined", sub 30 6, ["self", "hearer", "number"], ["self", "hearer", "number"], b_Teller_is_joined, some "Teller"⟩
def f_Teller_can_hear : FI := ⟨"can_hear", sub 30 7, ["self", "hearer", "number", "rooms"], ["self", "hearer", "number"], b_Teller_can_hear, some "Teller"⟩
def f_Teller_fits : FI := ⟨"fits", sub 30 8, ["self", "hearer", "number", "far", "slack", "deep"], ["self", "hearer", "number"], b_Teller_fits, some "Teller"⟩
def f_Teller_settled : FI := ⟨"settled", sub 30 9, ["self", "time", "found", "hearer", "number", "is_known"], ["self", "time"], b_Teller_settled, some "Teller"⟩
def f_Teller_turn_pair : FI := ⟨"turn_pair", sub 30 10, ["self", "hearer", "number", "is_known"], ["self", "hearer", "number", "is_known"], b_Teller_turn_pair, some "Teller"⟩
def f_Teller_come : FI := ⟨"come", sub 30 11, ["self", "number", "place", "room", "group"], ["self", "number", "place", "room", "group"], b_Teller_come, some "Teller"⟩
def f_Teller_listen : FI := ⟨"listen", sub 30 12, ["self", "number", "sight"], ["self", "number", "sight"], b_Teller_listen, some "Teller"⟩
def f_Teller_deaf : FI := ⟨"deaf", sub 30 13, ["self", "number"], ["self", "number"], b_Teller_deaf, some "Teller"⟩
def f_Teller_go : FI := ⟨"go", sub 30 14, ["self", "number"], ["self", "number"], b_Teller_go, some "Teller"⟩
def f_Teller_room : FI := ⟨"room", sub 30 15, ["self", "number", "room", "place", "old", "group"], ["self", "number", "room"], b_Teller_room, some "Teller"⟩
def f_Teller_group : FI := ⟨"group", sub 30 16, ["self", "number", "group", "place", "room", "old"], ["self", "number", "group"], b_Teller_group, some "Teller"⟩
def f_Teller_door : FI := ⟨"door", sub 30 17, ["self", "one", "other", "is_open"], ["self", "one", "other", "is_open"], b_Teller_door, some "Teller"⟩
def f_Teller_turn : FI := ⟨"turn", sub 30 18, ["self", "moves", "goals", "number", "place", "rows", "hearer", "room", "group"], ["self", "moves"], b_Teller_turn, some "Teller"⟩
def f_Teller_pair_turn : FI := ⟨"pair_turn", sub 30 19, ["self", "hearer", "number", "goals", "far", "slack", "deep", "ways", "found", "time", "is_known", "one"], ["self", "hearer", "number", "goals"], b_Teller_pair_turn, some "Teller"⟩
def f_Teller_told : FI := ⟨"told", sub 30 20, ["self", "number", "far", "place", "one"], ["self", "number", "far"], b_Teller_told, some "Teller"⟩
def F : List FI := [f__wall, f_distance, f_nearest, f_chosen, f_chosen_on, f_flickers, f_divisor, f_fraction, f_is_less, f_lesser, f_greater, f_within, f_when_near, f_changes, f_beside, f_steps, f_reach, f_opened, f_shut, f_is_ahead, f_sorted_rows, f__law_draw, f__law_pick, f__law_board, f__law_keeps, f__law_all_known, f_law, f_Teller___init__, f_Teller_need, f_Teller_board, f_Teller_hearers, f_Teller_knows, f_Teller_known_by, f_Teller_is_joined, f_Teller_can_hear, f_Teller_fits, f_Teller_settled, f_Teller_turn_pair, f_Teller_come, f_Teller_listen, f_Teller_deaf, f_Teller_go, f_Teller_room, f_Teller_group, f_Teller_door, f_Teller_turn, f_Teller_pair_turn, f_Teller_told]
def Pr : Prg := ⟨F, [("START", (.tup [0, 1]))], [.exc "NoThing", .exc "NoRoom", .exc "BadMove", .ins "Teller" ["doors", "things", "sights", "known"] [("need", 28), ("board", 29), ("hearers", 30), ("knows", 31), ("known_by", 32), ("is_joined", 33), ("can_hear", 34), ("fits", 35), ("settled", 36), ("turn_pair", 37), ("come", 38), ("listen", 39), ("deaf", 40), ("go", 41), ("room", 42), ("group", 43), ("door", 44), ("turn", 45), ("pair_turn", 46), ("told", 47)] 27]⟩
theorem h__wall : F[i__wall]? = some f__wall := rfl
theorem o__wall : f__wall.Ok Pr := ⟨⟨rfl, rfl, rfl, by decide +kernel, rfl, by decide +kernel, by decide +kernel⟩, fun _ _ _ _ _ _ us hl => match us, hl with | [_], _ => rfl, by decide +kernel⟩
theorem h_distance : F[i_distance]? = some f_distance := rfl
theorem o_distance : f_distance.Ok Pr := ⟨⟨rfl, rfl, rfl, by decide +kernel, rfl, by decide +kernel, by decide +kernel⟩, fun _ _ _ _ _ _ us hl => match us, hl with | [_, _], _ => rfl, by decide +kernel⟩
theorem h_nearest : F[i_nearest]? = some f_nearest := rfl
theorem o_nearest : f_nearest.Ok Pr := ⟨⟨rfl, rfl, rfl, by decide +kernel, rfl, by decide +kernel, by decide +kernel⟩, fun _ _ _ _ _ _ us hl => match us, hl with | [_, _, _], _ => rfl, by decide +kernel⟩
theorem h_chosen : F[i_chosen]? = some f_chosen := rfl
theorem o_chosen : f_chosen.Ok Pr := ⟨⟨rfl, rfl, rfl, by decide +kernel, rfl, by decide +kernel, by decide +kernel⟩, fun _ _ _ _ _ _ us hl => match us, hl with | [_, _, _, _, _], _ => rfl, by decide +kernel⟩
theorem h_chosen_on : F[i_chosen_on]? = some f_chosen_on := rfl
theorem o_chosen_on : f_chosen_on.Ok Pr := ⟨⟨rfl, rfl, rfl, by decide +kernel, rfl, by decide +kernel, by decide +kernel⟩, fun _ _ _ _ _ _ us hl => match us, hl with | [_, _, _, _], _ => rfl, by decide +kernel⟩
theorem h_flickers : F[i_flickers]? = some f_flickers := rfl
theorem o_flickers : f_flickers.Ok Pr := ⟨⟨rfl, rfl, rfl, by decide +kernel, rfl, by decide +kernel, by decide +kernel⟩, fun _ _ _ _ _ _ us hl => match us, hl with | [_], _ => rfl, by decide +kernel⟩
theorem h_divisor : F[i_divisor]? = some f_divisor := rfl
theorem o_divisor : f_divisor.Ok Pr := ⟨⟨rfl, rfl, rfl, by decide +kernel, rfl, by decide +kernel, by decide +kernel⟩, fun _ _ _ _ _ _ us hl => match us, hl with | [_, _], _ => rfl, by decide +kernel⟩
theorem h_fraction : F[i_fraction]? = some f_fraction := rfl
theorem o_fraction : f_fraction.Ok Pr := ⟨⟨rfl, rfl, rfl, by decide +kernel, rfl, by decide +kernel, by decide +kernel⟩, fun _ _ _ _ _ _ us hl => match us, hl with | [_, _], _ => rfl, by decide +kernel⟩
theorem h_is_less : F[i_is_less]? = some f_is_less := rfl
theorem o_is_less : f_is_less.Ok Pr := ⟨⟨rfl, rfl, rfl, by decide +kernel, rfl, by decide +kernel, by decide +kernel⟩, fun _ _ _ _ _ _ us hl => match us, hl with | [_, _], _ => rfl, by decide +kernel⟩
theorem h_lesser : F[i_lesser]? = some f_lesser := rfl
theorem o_lesser : f_lesser.Ok Pr := ⟨⟨rfl, rfl, rfl, by decide +kernel, rfl, by decide +kernel, by decide +kernel⟩, fun _ _ _ _ _ _ us hl => match us, hl with | [_, _], _ => rfl, by decide +kernel⟩
theorem h_greater : F[i_greater]? = some f_greater := rfl
theorem o_greater : f_greater.Ok Pr := ⟨⟨rfl, rfl, rfl, by decide +kernel, rfl, by decide +kernel, by decide +kernel⟩, fun _ _ _ _ _ _ us hl => match us, hl with | [_, _], _ => rfl, by decide +kernel⟩
theorem h_within : F[i_within]? = some f_within := rfl
theorem o_within : f_within.Ok Pr := ⟨⟨rfl, rfl, rfl, by decide +kernel, rfl, by decide +kernel, by decide +kernel⟩, fun _ _ _ _ _ _ us hl => match us, hl with | [_, _, _], _ => rfl, by decide +kernel⟩
theorem h_when_near : F[i_when_near]? = some f_when_near := rfl
theorem o_when_near : f_when_near.Ok Pr := ⟨⟨rfl, rfl, rfl, by decide +kernel, rfl, by decide +kernel, by decide +kernel⟩, fun _ _ _ _ _ _ us hl => match us, hl with | [_, _, _], _ => rfl, by decide +kernel⟩
theorem h_changes : F[i_changes]? = some f_changes := rfl
theorem o_changes : f_changes.Ok Pr := ⟨⟨rfl, rfl, rfl, by decide +kernel, rfl, by decide +kernel, by decide +kernel⟩, fun _ _ _ _ _ _ us hl => match us, hl with | [_, _, _, _, _], _ => rfl, by decide +kernel⟩
theorem h_beside : F[i_beside]? = some f_beside := rfl
theorem o_beside : f_beside.Ok Pr := ⟨⟨rfl, rfl, rfl, by decide +kernel, rfl, by decide +kernel, by decide +kernel⟩, fun _ _ _ _ _ _ us hl => match us, hl with | [_, _], _ => rfl, by decide +kernel⟩
theorem h_steps : F[i_steps]? = some f_steps := rfl
theorem o_steps : f_steps.Ok Pr := ⟨⟨rfl, rfl, rfl, by decide +kernel, rfl, by decide +kernel, by decide +kernel⟩, fun _ _ _ _ _ _ us hl => match us, hl with | [_, _], _ => rfl, by decide +kernel⟩
theorem h_reach : F[i_reach]? = some f_reach := rfl
theorem o_reach : f_reach.Ok Pr := ⟨⟨rfl, rfl, rfl, by decide +kernel, rfl, by decide +kernel, by decide +kernel⟩, fun _ _ _ _ _ _ us hl => match us, hl with | [_, _, _], _ => rfl, by decide +kernel⟩
theorem h_opened : F[i_opened]? = some f_opened := rfl
theorem o_opened : f_opened.Ok Pr := ⟨⟨rfl, rfl, rfl, by decide +kernel, rfl, by decide +kernel, by decide +kernel⟩, fun _ _ _ _ _ _ us hl => match us, hl with | [_, _, _], _ => rfl, by decide +kernel⟩
theorem h_shut : F[i_shut]? = some f_shut := rfl
theorem o_shut : f_shut.Ok Pr := ⟨⟨rfl, rfl, rfl, by decide +kernel, rfl, by decide +kernel, by decide +kernel⟩, fun _ _ _ _ _ _ us hl => match us, hl with | [_, _, _], _ => rfl, by decide +kernel⟩
theorem h_is_ahead : F[i_is_ahead]? = some f_is_ahead := rfl
theorem o_is_ahead : f_is_ahead.Ok Pr := ⟨⟨rfl, rfl, rfl, by decide +kernel, rfl, by decide +kernel, by decide +kernel⟩, fun _ _ _ _ _ _ us hl => match us, hl with | [_, _], _ => rfl, by decide +kernel⟩
theorem h_sorted_rows : F[i_sorted_rows]? = some f_sorted_rows := rfl
theorem o_sorted_rows : f_sorted_rows.Ok Pr := ⟨⟨rfl, rfl, rfl, by decide +kernel, rfl, by decide +kernel, by decide +kernel⟩, fun _ _ _ _ _ _ us hl => match us, hl with | [_], _ => rfl, by decide +kernel⟩
theorem h__law_draw : F[i__law_draw]? = some f__law_draw := rfl
theorem o__law_draw : f__law_draw.Ok Pr := ⟨⟨rfl, rfl, rfl, by decide +kernel, rfl, by decide +kernel, by decide +kernel⟩, fun _ _ _ _ _ _ us hl => match us, hl with | [_, _, _], _ => rfl, by decide +kernel⟩
theorem h__law_pick : F[i__law_pick]? = some f__law_pick := rfl
theorem o__law_pick : f__law_pick.Ok Pr := ⟨⟨rfl, rfl, rfl, by decide +kernel, rfl, by decide +kernel, by decide +kernel⟩, fun _ _ _ _ _ _ us hl => match us, hl with | [_, _, _], _ => rfl, by decide +kernel⟩
theorem h__law_board : F[i__law_board]? = some f__law_board := rfl
theorem o__law_board : f__law_board.Ok Pr := ⟨⟨rfl, rfl, rfl, by decide +kernel, rfl, by decide +kernel, by decide +kernel⟩, fun _ _ _ _ _ _ us hl => match us, hl with | [_, _, _, _], _ => rfl, by decide +kernel⟩
theorem h__law_keeps : F[i__law_keeps]? = some f__law_keeps := rfl
theorem o__law_keeps : f__law_keeps.Ok Pr := ⟨⟨rfl, rfl, rfl, by decide +kernel, rfl, by decide +kernel, by decide +kernel⟩, fun _ _ _ _ _ _ us hl => match us, hl with | [_, _, _, _], _ => rfl, by decide +kernel⟩
theorem h__law_all_known : F[i__law_all_known]? = some f__law_all_known := rfl
theorem o__law_all_known : f__law_all_known.Ok Pr := ⟨⟨rfl, rfl, rfl, by decide +kernel, rfl, by decide +kernel, by decide +kernel⟩, fun _ _ _ _ _ _ us hl => match us, hl with | [_, _, _], _ => rfl, by decide +kernel⟩
theorem h_law : F[i_law]? = some f_law := rfl
theorem o_law : f_law.Ok Pr := ⟨⟨rfl, rfl, rfl, by decide +kernel, rfl, by decide +kernel, by decide +kernel⟩, fun _ _ _ _ _ _ us hl => match us, hl with | [_], _ => rfl, by decide +kernel⟩
theorem h_Teller___init__ : F[i_Teller___init__]? = some f_Teller___init__ := rfl
theorem o_Teller___init__ : f_Teller___init__.Ok Pr := ⟨⟨rfl, rfl, rfl, by decide +kernel, rfl, by decide +kernel, by decide +kernel⟩, fun _ _ _ _ _ _ us hl => match us, hl with | [_, _], _ => rfl, by decide +kernel⟩
theorem h_Teller_need : F[i_Teller_need]? = some f_Teller_need := rfl
theorem o_Teller_need : f_Teller_need.Ok Pr := ⟨⟨rfl, rfl, rfl, by decide +kernel, rfl, by decide +kernel, by decide +kernel⟩, fun _ _ _ _ _ _ us hl => match us, hl with | [_, _], _ => rfl, by decide +kernel⟩
theorem h_Teller_board : F[i_Teller_board]? = some f_Teller_board := rfl
theorem o_Teller_board : f_Teller_board.Ok Pr := ⟨⟨rfl, rfl, rfl, by decide +kernel, rfl, by decide +kernel, by decide +kernel⟩, fun _ _ _ _ _ _ us hl => match us, hl with | [_], _ => rfl, by decide +kernel⟩
theorem h_Teller_hearers : F[i_Teller_hearers]? = some f_Teller_hearers := rfl
theorem o_Teller_hearers : f_Teller_hearers.Ok Pr := ⟨⟨rfl, rfl, rfl, by decide +kernel, rfl, by decide +kernel, by decide +kernel⟩, fun _ _ _ _ _ _ us hl => match us, hl with | [_], _ => rfl, by decide +kernel⟩
theorem h_Teller_knows : F[i_Teller_knows]? = some f_Teller_knows := rfl
theorem o_Teller_knows : f_Teller_knows.Ok Pr := ⟨⟨rfl, rfl, rfl, by decide +kernel, rfl, by decide +kernel, by decide +kernel⟩, fun _ _ _ _ _ _ us hl => match us, hl with | [_, _], _ => rfl, by decide +kernel⟩
theorem h_Teller_known_by : F[i_Teller_known_by]? = some f_Teller_known_by := rfl
theorem o_Teller_known_by : f_Teller_known_by.Ok Pr := ⟨⟨rfl, rfl, rfl, by decide +kernel, rfl, by decide +kernel, by decide +kernel⟩, fun _ _ _ _ _ _ us hl => match us, hl with | [_, _], _ => rfl, by decide +kernel⟩
theorem h_Teller_is_joined : F[i_Teller_is_joined]? = some f_Teller_is_joined := rfl
theorem o_Teller_is_joined : f_Teller_is_joined.Ok Pr := ⟨⟨rfl, rfl, rfl, by decide +kernel, rfl, by decide +kernel, by decide +kernel⟩, fun _ _ _ _ _ _ us hl => match us, hl with | [_, _, _], _ => rfl, by decide +kernel⟩
theorem h_Teller_can_hear : F[i_Teller_can_hear]? = some f_Teller_can_hear := rfl
theorem o_Teller_can_hear : f_Teller_can_hear.Ok Pr := ⟨⟨rfl, rfl, rfl, by decide +kernel, rfl, by decide +kernel, by decide +kernel⟩, fun _ _ _ _ _ _ us hl => match us, hl with | [_, _, _], _ => rfl, by decide +kernel⟩
theorem h_Teller_fits : F[i_Teller_fits]? = some f_Teller_fits := rfl
theorem o_Teller_fits : f_Teller_fits.Ok Pr := ⟨⟨rfl, rfl, rfl, by decide +kernel, rfl, by decide +kernel, by decide +kernel⟩, fun _ _ _ _ _ _ us hl => match us, hl with | [_, _, _], _ => rfl, by decide +kernel⟩
theorem h_Teller_settled : F[i_Teller_settled]? = some f_Teller_settled := rfl
theorem o_Teller_settled : f_Teller_settled.Ok Pr := ⟨⟨rfl, rfl, rfl, by decide +kernel, rfl, by decide +kernel, by decide +kernel⟩, fun _ _ _ _ _ _ us hl => match us, hl with | [_, _], _ => rfl, by decide +kernel⟩
theorem h_Teller_turn_pair : F[i_Teller_turn_pair]? = some f_Teller_turn_pair := rfl
theorem o_Teller_turn_pair : f_Teller_turn_pair.Ok Pr := ⟨⟨rfl, rfl, rfl, by decide +kernel, rfl, by decide +kernel, by decide +kernel⟩, fun _ _ _ _ _ _ us hl => match us, hl with | [_, _, _, _], _ => rfl, by decide +kernel⟩
theorem h_Teller_come : F[i_Teller_come]? = some f_Teller_come := rfl
theorem o_Teller_come : f_Teller_come.Ok Pr := ⟨⟨rfl, rfl, rfl, by decide +kernel, rfl, by decide +kernel, by decide +kernel⟩, fun _ _ _ _ _ _ us hl => match us, hl with | [_, _, _, _, _], _ => rfl, by decide +kernel⟩
theorem h_Teller_listen : F[i_Teller_listen]? = some f_Teller_listen := rfl
theorem o_Teller_listen : f_Teller_listen.Ok Pr := ⟨⟨rfl, rfl, rfl, by decide +kernel, rfl, by decide +kernel, by decide +kernel⟩, fun _ _ _ _ _ _ us hl => match us, hl with | [_, _, _], _ => rfl, by decide +kernel⟩
theorem h_Teller_deaf : F[i_Teller_deaf]? = some f_Teller_deaf := rfl
theorem o_Teller_deaf : f_Teller_deaf.Ok Pr := ⟨⟨rfl, rfl, rfl, by decide +kernel, rfl, by decide +kernel, by decide +kernel⟩, fun _ _ _ _ _ _ us hl => match us, hl with | [_, _], _ => rfl, by decide +kernel⟩
theorem h_Teller_go : F[i_Teller_go]? = some f_Teller_go := rfl
theorem o_Teller_go : f_Teller_go.Ok Pr := ⟨⟨rfl, rfl, rfl, by decide +kernel, rfl, by decide +kernel, by decide +kernel⟩, fun _ _ _ _ _ _ us hl => match us, hl with | [_, _], _ => rfl, by decide +kernel⟩
theorem h_Teller_room : F[i_Teller_room]? = some f_Teller_room := rfl
theorem o_Teller_room : f_Teller_room.Ok Pr := ⟨⟨rfl, rfl, rfl, by decide +kernel, rfl, by decide +kernel, by decide +kernel⟩, fun _ _ _ _ _ _ us hl => match us, hl with | [_, _, _], _ => rfl, by decide +kernel⟩
theorem h_Teller_group : F[i_Teller_group]? = some f_Teller_group := rfl
theorem o_Teller_group : f_Teller_group.Ok Pr := ⟨⟨rfl, rfl, rfl, by decide +kernel, rfl, by decide +kernel, by decide +kernel⟩, fun _ _ _ _ _ _ us hl => match us, hl with | [_, _, _], _ => rfl, by decide +kernel⟩
theorem h_Teller_door : F[i_Teller_door]? = some f_Teller_door := rfl
theorem o_Teller_door : f_Teller_door.Ok Pr := ⟨⟨rfl, rfl, rfl, by decide +kernel, rfl, by decide +kernel, by decide +kernel⟩, fun _ _ _ _ _ _ us hl => match us, hl with | [_, _, _, _], _ => rfl, by decide +kernel⟩
theorem h_Teller_turn : F[i_Teller_turn]? = some f_Teller_turn := rfl
theorem o_Teller_turn : f_Teller_turn.Ok Pr := ⟨⟨rfl, rfl, rfl, by decide +kernel, rfl, by decide +kernel, by decide +kernel⟩, fun _ _ _ _ _ _ us hl => match us, hl with | [_, _], _ => rfl, by decide +kernel⟩
theorem h_Teller_pair_turn : F[i_Teller_pair_turn]? = some f_Teller_pair_turn := rfl
theorem o_Teller_pair_turn : f_Teller_pair_turn.Ok Pr := ⟨⟨rfl, rfl, rfl, by decide +kernel, rfl, by decide +kernel, by decide +kernel⟩, fun _ _ _ _ _ _ us hl => match us, hl with | [_, _, _, _], _ => rfl, by decide +kernel⟩
theorem h_Teller_told : F[i_Teller_told]? = some f_Teller_told := rfl
theorem o_Teller_told : f_Teller_told.Ok Pr := ⟨⟨rfl, rfl, rfl, by decide +kernel, rfl, by decide +kernel, by decide +kernel⟩, fun _ _ _ _ _ _ us hl => match us, hl with | [_, _, _], _ => rfl, by decide +kernel⟩
theorem o_F : ∀ fi ∈ Pr.F, fi.Ok Pr := by
  intro fi h
  simp only [Pr, F, List.mem_cons, List.not_mem_nil, or_false] at h
  rcases h with rfl | rfl | rfl | rfl | rfl | rfl | rfl | rfl | rfl | rfl | rfl | rfl | rfl | rfl | rfl | rfl | rfl | rfl | rfl | rfl | rfl | rfl | rfl | rfl | rfl | rfl | rfl | rfl | rfl | rfl | rfl | rfl | rfl | rfl | rfl | rfl | rfl | rfl | rfl | rfl | rfl | rfl | rfl | rfl | rfl | rfl | rfl | rfl
  · exact o__wall
  · exact o_distance
  · exact o_nearest
  · exact o_chosen
  · exact o_chosen_on
  · exact o_flickers
  · exact o_divisor
  · exact o_fraction
  · exact o_is_less
  · exact o_lesser
  · exact o_greater
  · exact o_within
  · exact o_when_near
  · exact o_changes
  · exact o_beside
  · exact o_steps
  · exact o_reach
  · exact o_opened
  · exact o_shut
  · exact o_is_ahead
  · exact o_sorted_rows
  · exact o__law_draw
  · exact o__law_pick
  · exact o__law_board
  · exact o__law_keeps
  · exact o__law_all_known
  · exact o_law
  · exact o_Teller___init__
  · exact o_Teller_need
  · exact o_Teller_board
  · exact o_Teller_hearers
  · exact o_Teller_knows
  · exact o_Teller_known_by
  · exact o_Teller_is_joined
  · exact o_Teller_can_hear
  · exact o_Teller_fits
  · exact o_Teller_settled
  · exact o_Teller_turn_pair
  · exact o_Teller_come
  · exact o_Teller_listen
  · exact o_Teller_deaf
  · exact o_Teller_go
  · exact o_Teller_room
  · exact o_Teller_group
  · exact o_Teller_door
  · exact o_Teller_turn
  · exact o_Teller_pair_turn
  · exact o_Teller_told
end NT.K
namespace NT.K
open PySem L2 NT
theorem distance_ok {wf n : Nat} {p q : Int × Int} {S : Sto} : run F wf (n + 1) i_distance [dP p, dP q] S = .ok (.int (cheb p q)) S := by
  rw [run_at h_distance S rfl]
  simp [f_distance, b_distance, dP, cheb, xs_cons, x1_ret]
  omega
theorem draw_tl {cf : Nat → List D → Sto → R D} {wf : Nat} {a b : Option D} {k c m : Int} {e f : Option D} {S : Sto} {Q : Fl → Sto → Prop} (hm : 0 < m) (h : ∀ x, 0 ≤ x → x < m → Q (.rt (.int x)) S) :
    (exs cf wf (tl4 b__law_draw) [a, b, some (.int m), some (.int k), some (.int c), e, f] S).To Q := by
  have hm0 : ¬ m = 0 := by omega
  have hm1 : ∀ {x : Int}, CMul 104729 x := fun {x} => cmulL (by decide) (by decide)
  have hd : ∀ {x : Int}, CDivN x 64 := ⟨by decide, by decide⟩
  have sq : ∀ x : Int, CMul (x.fmod 4294967291) (x.fmod 4294967291) := fun x => by
    have := fmod_rng (a := x) (b := 4294967291) (by decide)
    exact cmulL (by omega) (by omega)
  have hr : ∀ {x : Int}, CMul x 48271 := fun {x} => cmulR (by decide) (by decide)
  have hr2 : ∀ {x : Int}, CMul x 69621 := fun {x} => cmulR (by decide) (by decide)
  have hr3 : ∀ {x : Int}, CMul x 67108864 := fun {x} => cmulR (by decide) (by decide)
  refine to_nm ?_
  simp [hm1]
  refine to_nm ?_
  simp [hr, sq]
  refine to_nm ?_
  simp [hr2, sq]
  refine to_ret ?_
  simp [hd, hr3, hm0]
  exact h _ (Int.fmod_nonneg_of_pos _ hm) (Int.fmod_lt_of_pos _ hm)
/-- a draw -/
theorem draw_ok {wf n : Nat} {ns : List Int} {m : Int} {S : Sto} (hm : 0 < m) (ht : Tn 1 S) : (run F wf (n + 1) i__law_draw [.wl (ns.map .int), .ref 0, .int m] S).To fun d S' => ∃ x, d = .int x ∧ 0 ≤ x ∧ x < m ∧ Go 1 S S' := by
  obtain ⟨zs, h0, hz⟩ := ht
  have hl := (List.getElem?_eq_some_iff.mp h0).1
  have h1 : cellL S 0 = some zs := by simp [cellL, h0]
  have hm0 : ¬ m = 0 := by omega
  have hz1 : zs.length < 16777216 := by omega
  have h2 : (S.set 0 (Cell.lst (zs ++ [D.int 0])))[0]? = some (Cell.lst (zs ++ [D.int 0])) := by simp [hl]
  have hgo : Go 1 S (S.set 0 (Cell.lst (zs ++ [D.int 0]))) := by
    refine ⟨by simp, fun i hi _ => by rw [List.getElem?_set_ne (by omega)], fun k t => ?_⟩
    obtain ⟨zs', e, q⟩ := t
    rw [h0] at e
    cases e
    exact ⟨_, h2, by simp; omega⟩
  refine run_To h__law_draw rfl ?_
  refine to_exp ?_
  simp [f__law_draw, Mth.ok, h1, appendD, hz1]
  refine to_nm ?_
  simp [lenD, asSeq, h2]
  refine to_nm ?_
  simp
  refine to_ite ?_
  simp
  refine ⟨fun hn => ?_, fun hn => ?_⟩
  · obtain ⟨x, hx⟩ := script_at ns hn (zs.length + 1)
    refine to_nm ?_
    simp [hn, hx]
    exact draw_tl hm fun x h1 h2 => ⟨x, rfl, h1, h2, hgo⟩
  · exact draw_tl hm fun x h1 h2 => ⟨x, rfl, h1, h2, hgo⟩
/-- one of some -/
theorem pick_ok {wf n : Nat} {ns : List Int} {xs : List D} {S : Sto} (hx : xs ≠ []) (ht : Tn 1 S) : (run F wf (n + 2) i__law_pick [.wl (ns.map .int), .ref 0, .lst xs] S).To fun d S' => d ∈ xs ∧ Go 1 S S' := by
  have hp : 0 < xs.length := List.length_pos_iff.mpr hx
  obtain ⟨d, S1, e1, x, rfl, h1, h2, g⟩ := draw_ok (wf := wf) (n := n) (ns := ns) (m := xs.length) (S := S) (by omega) ht
  refine run_To h__law_pick rfl (to_ret ?_)
  have e : atI xs x = some xs[x.toNat] := by
    rw [at_in h1 h2, List.getElem?_eq_getElem]
  simp [f__law_pick, e1, e]
  exact g
theorem nearest_ok {wf n : Nat} {ts : List Thing} {p : Int × Int} {S : Sto} {most : Int} (hz : ts.length ≤ 16777216) (hm : 0 ≤ most) : run F wf (n + 2) i_nearest [dB ts, dP p, .int most] S = .ok (.tup ((nearestL ts p most).map .int)) S := by
  refine R.of_To (run_To h_nearest rfl (to_ret ?_))
  simp [f_nearest, hz]
  rw [lcD_all dT (fun t => pr (rowOf p t)) gok_nil ts (fun t ht => by
    simp [distance_ok, pr, rowOf])]
  have hs : sortedD S [.lst (ts.map fun t => pr (rowOf p t))] = some (.lst (((ts.map (rowOf p)).mergeSort prLe).map pr), S) := sortedD_pr (by simp [itemsOf, Function.comp_def]) (by simpa using hz)
  have hl : min most.toNat ts.length ≤ 16777216 := by omega
  simp [hs, slcF, cut_to _ _ hm, hl]
  rw [← List.map_take, lcD_all pr (fun q => .int q.2) gok_nil _ (fun t ht => by simp)]
  simp [nearestL, Function.comp_def]
theorem divisor_ok {wf n : Nat} {u l : Int} {S : Sto} (h : l.natAbs < wf) : run F wf (n + 1) i_divisor [.int u, .int l] S = .ok (.int (Int.gcd u l : Int)) S := by
  refine R.of_To (run_To h_divisor rfl ?_)
  obtain ⟨I, hI⟩ : ∃ I : Nat → NT.Env → Sto → Prop, ∀ m ρ T, I m ρ T ↔ (T = S ∧ ∃ a b : Int, ρ = [some (.int a), some (.int b)] ∧ Int.gcd a b = Int.gcd u l ∧ b.natAbs < m) := ⟨_, fun _ _ _ => Iff.rfl⟩
  refine to_while I ((hI _ _ _).mpr ⟨rfl, u, l, rfl, rfl, h⟩) ?_
  intro m ρ T hi
  obtain ⟨rfl, a, b, rfl, hg, hb⟩ := (hI _ _ _).mp hi
  obtain ⟨m', rfl⟩ : ∃ m', m = m' + 1 := ⟨m - 1, by omega⟩
  refine ⟨m', rfl, ?_⟩
  by_cases h0 : b = 0
  · simp [h0]
    refine to_ret ?_
    simp
    rw [h0] at hg
    rw [← hg]
    simp
    omega
  · simp [h0]
    refine to_asg ?_
    simp [h0]
    refine to_nil ((hI _ _ _).mpr ⟨rfl, b, a.fmod b, rfl, by rw [gcd_fmod]; exact hg, ?_⟩)
    have := fmod_abs a b h0
    omega
theorem fraction_ok {wf n : Nat} {u l : Int} {S : Sto} (hl : l ≠ 0) (hs : -4000000 ≤ l ∧ l ≤ 4000000) (hw : 5000000 ≤ wf) : run F wf (n + 2) i_fraction [.int u, .int l] S = .ok (dQ ((u : Rat) / (l : Rat))) S := by
  have hg : 0 < Int.gcd u l := Nat.pos_of_ne_zero fun e => hl (Int.gcd_eq_zero_iff.mp e).2
  have hg2 : Int.gcd u l ≤ l.natAbs := Nat.le_of_dvd (by omega) (Int.gcd_dvd_natAbs_right u l)
  have hd := frac_dQ u l hl
  have cd1 : ∀ x : Int, CDivN x (Int.gcd u l : Int) := fun x => ⟨by omega, by omega⟩
  have cd2 : ∀ x : Int, CDivN x (-(Int.gcd u l : Int)) := fun x => ⟨by omega, by omega⟩
  refine R.of_To (run_To h_fraction rfl (to_nm ?_))
  simp [f_fraction, divisor_ok (wf := wf) (n := n) (u := u) (l := l) (S := S) (by omega)]
  refine to_ite ?_
  by_cases h : l < 0
  · rw [if_pos h] at hd
    simp [h]
    refine to_nm ?_
    simp
    refine to_ret ?_
    simp [cd2, hd]
  · rw [if_neg h] at hd
    simp [h]
    refine to_ret ?_
    simp [cd1, hd]
theorem less_ok {wf n : Nat} {a b : Rat} {S : Sto} (ha : QB a) (hb : QB b) : run F wf (n + 1) i_is_less [dQ a, dQ b] S = .ok (.bl (decide (a < b))) S := by
  obtain ⟨a1, a2⟩ := ha
  obtain ⟨b1, b2⟩ := hb
  have c1 : ∀ x, CMul a.num x := fun x => cmulL (by omega) (by omega)
  have c2 : ∀ x, CMul b.num x := fun x => cmulL (by omega) (by omega)
  refine R.of_To (run_To h_is_less rfl (to_ret ?_))
  simp [f_is_less, c1, c2, lt_rat]
theorem lesser_ok {wf n : Nat} {a b : Rat} {S : Sto} (ha : QB a) (hb : QB b) : run F wf (n + 2) i_lesser [dQ a, dQ b] S = .ok (dQ (lesR a b)) S := by
  refine R.of_To (run_To h_lesser rfl (to_ite ?_))
  simp [f_lesser, less_ok hb ha]
  unfold lesR
  by_cases h : b < a
  · simp [h]
    refine to_ret ?_
    simp
  · simp [h]
    refine to_ret ?_
    simp
theorem greater_ok {wf n : Nat} {a b : Rat} {S : Sto} (ha : QB a) (hb : QB b) : run F wf (n + 2) i_greater [dQ a, dQ b] S = .ok (dQ (graR a b)) S := by
  refine R.of_To (run_To h_greater rfl (to_ite ?_))
  simp [f_greater, less_ok ha hb]
  unfold graR
  by_cases h : a < b
  · simp [h]
    refine to_ret ?_
    simp
  · simp [h]
    refine to_ret ?_
    simp
theorem within_ok {wf n : Nat} {b e far : Int} {S : Sto} (hb : Sm b) (he : Sm e) (hf : Sm far) (hw : 5000000 ≤ wf) : run F wf (n + 3) i_within [.int b, .int e, .int far] S = .ok (dO (withinR b e far)) S := by
  have b1 := hb.lo
  have b2 := hb.hi
  have e1 := he.lo
  have e2 := he.hi
  have f1 := hf.lo
  have f2 := hf.hi
  refine R.of_To (run_To h_within rfl (to_ite ?_))
  unfold withinR
  by_cases q : b = e
  · rw [if_pos q]
    simp [f_within, q]
    refine to_ite ?_
    subst q
    simp
    refine ⟨fun c => ?_, fun c => ?_⟩
    · refine to_ret ?_
      rw [if_pos c]
      simp
      rfl
    · refine to_ret ?_
      rw [if_neg (by omega)]
      simp
  · rw [if_neg q]
    dsimp only
    have hl : e - b ≠ 0 := by omega
    have k1 : QB (((0 - far - b : Int) : Rat) / ((e - b : Int) : Rat)) := QB_frac (by omega) (by omega) (by omega)
    have k2 : QB (((far - b : Int) : Rat) / ((e - b : Int) : Rat)) := QB_frac (by omega) (by omega) (by omega)
    have r1 := fraction_ok (wf := wf) (n := n) (u := 0 - far - b) (l := e - b) (S := S) hl (by omega) hw
    have r2 := fraction_ok (wf := wf) (n := n) (u := far - b) (l := e - b) (S := S) hl (by omega) hw
    generalize (((0 - far - b : Int) : Rat) / ((e - b : Int) : Rat)) = f at r1 k1 ⊢
    generalize (((far - b : Int) : Rat) / ((e - b : Int) : Rat)) = l at r2 k2 ⊢
    simp [f_within, q]
    refine to_nm ?_
    simp at r1
    simp [r1]
    refine to_nm ?_
    simp [r2]
    refine to_ite ?_
    simp [less_ok k2 k1]
    have fin : ∀ f' l', QB f' → QB l' → f' = (if l < f then l else f) → l' = (if l < f then f else l) → (exs (run F wf (n + 2)) wf (.cons (.asg (.nm 3) (.call i_greater (.cons (.var 3) (.cons (.tup (.cons (.lit (.int 0)) (.cons (.lit (.int 1)) .nil))) .nil))))
        (.cons (.asg (.nm 4) (.call i_lesser (.cons (.var 4) (.cons (.tup (.cons (.lit (.int 1)) (.cons (.lit (.int 1)) .nil))) .nil))))
        (.cons (.ite (.call i_is_less (.cons (.var 4) (.cons (.var 3) .nil))) (.cons (.ret (.lit .non)) .nil) .nil)
        (.cons (.ret (.tup (.cons (.var 3) (.cons (.var 4) .nil)))) .nil)))) [some (.int b), some (.int e), some (.int far), some (dQ f'), some (dQ l')] S).To fun f_1 S_1 => match f_1 with
          | .nx ρ => False
          | .rt d => d = dO (if lesR (if l < f then f else l) 1 < graR (if l < f then l else f) 0 then none else some (graR (if l < f then l else f) 0, lesR (if l < f then f else l) 1)) ∧ S_1 = S
          | _ => False := by
      intro f' l' kf kl ef el
      rw [← ef, ← el]
      have g1 := greater_ok (wf := wf) (n := n) (S := S) kf QB_01.1
      have g2 := lesser_ok (wf := wf) (n := n) (S := S) kl QB_01.2
      rw [dQ_0] at g1
      rw [dQ_1] at g2
      refine to_nm ?_
      simp [g1]
      refine to_nm ?_
      simp [g2]
      refine to_ite ?_
      simp [less_ok (QB_les kl QB_01.2) (QB_gra kf QB_01.1)]
      refine ⟨fun c => ?_, fun c => ?_⟩
      · refine to_ret ?_
        simp [c]
      · refine to_ret ?_
        have c' : ¬ lesR l' 1 < graR f' 0 := by grind
        simp [c']
        rfl
    by_cases c : l < f
    · simp [c]
      refine to_asg ?_
      simp
      have := fin l f k2 k1 (by rw [if_pos c]) (by rw [if_pos c])
      simp [c] at this
      exact this.mono fun f S' q => by cases f <;> first | exact q | exact q.elim
    · simp [c]
      have := fin f l k1 k2 (by rw [if_neg c]) (by rw [if_neg c])
      simp [c] at this
      exact this.mono fun f S' q => by cases f <;> first | exact q | exact q.elim
theorem when_ok {wf n : Nat} {w o : Way} {far : Int} {S : Sto} (h1 : Sm (w.1.1 - o.1.1)) (h2 : Sm (w.2.1 - o.2.1)) (h3 : Sm (w.1.2 - o.1.2)) (h4 : Sm (w.2.2 - o.2.2)) (hf : Sm far) (hw : 5000000 ≤ wf) :
    run F wf (n + 4) i_when_near [dW w, dW o, .int far] S = .ok (dO (whenR w o far)) S := by
  have q1 := within_ok (wf := wf) (n := n) (S := S) h1 h2 hf hw
  have q2 := within_ok (wf := wf) (n := n) (S := S) h3 h4 hf hw
  refine R.of_To (run_To h_when_near rfl (to_nm ?_))
  simp [f_when_near]
  rw [show D.tup [.tup [.int 0, .int 1], .tup [.int 1, .int 1]] = dI (0, 1) from rfl]
  refine to_forL (items := [.int 0, .int 1]) (gs := []) (S1 := S) (by simp [rngD]; rfl) ?_
  refine forD_step gok_nil rfl (to_nm ?_)
  simp [q1]
  unfold whenR
  cases e1 : withinR (w.1.1 - o.1.1) (w.2.1 - o.2.1) far with
  | none =>
    refine to_ite ?_
    simp
    refine to_ret ?_
    simp
  | some t =>
    have b1 := QB_within h1 h2 hf e1
    have g1 := greater_ok (wf := wf) (n := n + 1) (S := S) QB_01.1 b1.1
    have g2 := lesser_ok (wf := wf) (n := n + 1) (S := S) QB_01.2 b1.2
    refine to_ite ?_
    simp
    refine to_nm ?_
    simp [g1, g2]
    rw [show D.tup [dQ (graR 0 t.1), dQ (lesR 1 t.2)] = dI (meetR (0, 1) t) from rfl]
    refine to_nil ?_
    have bm : QB (meetR (0, 1) t).1 ∧ QB (meetR (0, 1) t).2 := ⟨QB_gra QB_01.1 b1.1, QB_les QB_01.2 b1.2⟩
    generalize meetR (0, 1) t = m at bm ⊢
    refine forD_step gok_nil rfl (to_nm ?_)
    simp [q2]
    cases e2 : withinR (w.1.2 - o.1.2) (w.2.2 - o.2.2) far with
    | none =>
      refine to_ite ?_
      simp
      refine to_ret ?_
      simp
    | some t' =>
      have b2 := QB_within h3 h4 hf e2
      have g3 := greater_ok (wf := wf) (n := n + 1) (S := S) bm.1 b2.1
      have g4 := lesser_ok (wf := wf) (n := n + 1) (S := S) bm.2 b2.2
      refine to_ite ?_
      simp
      refine to_nm ?_
      simp [g3, g4]
      rw [show D.tup [dQ (graR m.1 t'.1), dQ (lesR m.2 t'.2)] = dI (meetR m t') from rfl]
      refine to_nil (forD_end gok_nil ?_)
      have bm2 : QB (meetR m t').1 ∧ QB (meetR m t').2 := ⟨QB_gra bm.1 b2.1, QB_les bm.2 b2.2⟩
      generalize meetR m t' = k at bm2 ⊢
      refine to_ite ?_
      simp [less_ok bm2.2 bm2.1]
      refine ⟨fun c => ?_, fun c => ?_⟩
      · refine to_ret ?_
        simp [c]
      · refine to_ret ?_
        have c' : ¬ k.2 < k.1 := by grind
        simp [c']
theorem changes_ok0 {wf n : Nat} {known : Bool} {w o : Way} {far slack : Int} {S : Sto} (h1 : Sm (w.1.1 - o.1.1)) (h2 : Sm (w.2.1 - o.2.1)) (h3 : Sm (w.1.2 - o.1.2)) (h4 : Sm (w.2.2 - o.2.2)) (hf : Sm far) (hfs : Sm (far + slack)) (hw : 5000000 ≤ wf) (hpos : 0 < S.length) :
    (run F wf (n + 5) i_changes [.bl known, dW w, dW o, .int far, .int slack] S).To fun d S' => d = dEs (chR known w o far slack) ∧ Go 0 S S' := by
  have q1 : ∀ T, run F wf (n + 4) i_when_near [dW w, dW o, .int far] T = .ok (dO (whenR w o far)) T := fun T => when_ok h1 h2 h3 h4 hf hw
  have q2 : ∀ T, run F wf (n + 4) i_when_near [dW w, dW o, .int (far + slack)] T = .ok (dO (whenR w o (far + slack))) T := fun T => when_ok h1 h2 h3 h4 hfs hw
  obtain ⟨R, hR⟩ : ∃ R, R = S.length := ⟨_, rfl⟩
  have hR0 : R ≠ 0 := by omega
  refine run_To h_changes rfl (to_nm ?_)
  simp [f_changes]
  rw [← hR]
  have c5 : cellL (S ++ [.lst []]) R = some [] := by simp [cellL, hR]
  have g5 : Go 0 S (S ++ [.lst []]) := Go.push _ hpos
  refine to_nm ?_
  simp
  rw [show D.tup [.int 0, .int 1] = dQ 0 from rfl]
  have fin : ∀ (es : List (Rat × Bool)) (time : Rat) (x7 : Option D) (T : Sto), QB time → es.length ≤ 5 → Go 0 S T → cellL T R = some (es.map dE) →
      (exs (run F wf (n + 4)) wf (.cons (.asg (.nm 8) (.call i_when_near (.cons (.var 1) (.cons (.var 2) (.cons (.bin .add (.var 3) (.var 4)) .nil)))))
        (.cons (.ite (.or (.cmp .is (.var 8) (.lit .non)) (.one (.call i_is_less (.cons (.idx (.var 8) (.lit (.int 1))) (.cons (.var 6) .nil))))) (.cons (.exp (.mth .append (.var 5) (.cons (.tup (.cons (.var 6) (.cons (.lit (.bl false)) .nil))) .nil))) .nil)
          (.cons (.ite (.cmp .ne (.idx (.var 8) (.lit (.int 1))) (.tup (.cons (.lit (.int 1)) (.cons (.lit (.int 1)) .nil)))) (.cons (.exp (.mth .append (.var 5) (.cons (.tup (.cons (.idx (.var 8) (.lit (.int 1))) (.cons (.lit (.bl false)) .nil))) .nil))) .nil) .nil) .nil))
        (.cons (.ret (.bt .tuple (.cons (.var 5) .nil))) .nil))) [some (.bl known), some (dW w), some (dW o), some (.int far), some (.int slack), some (.ref R), some (dQ time), x7, none] T).To
      fun f S' => ∃ d, f = .rt d ∧ d = dEs (es ++ leftR (whenR w o (far + slack)) time) ∧ Go 0 S S' := by
    intro es time x7 T ht hl hgo hc
    have hl' : es.length < 16777216 := by omega
    have app : ∀ e : Rat × Bool, ∀ x8, (exs (run F wf (n + 4)) wf (.cons (.ret (.bt .tuple (.cons (.var 5) .nil))) .nil) [some (.bl known), some (dW w), some (dW o), some (.int far), some (.int slack), some (.ref R), some (dQ time), x7, x8] (T.set R (.lst (es.map dE ++ [dE e])))).To
        fun f S' => ∃ d, f = .rt d ∧ d = dEs (es ++ [e]) ∧ Go 0 S S' := by
      intro e x8
      have hc' : cellL (T.set R (.lst (es.map dE ++ [dE e]))) R = some (es.map dE ++ [dE e]) := cell_set (cell_lt hc)
      have ht : tupleD (T.set R (.lst (es.map dE ++ [dE e]))) [.ref R] = some (.tup (es.map dE ++ [dE e]), T.set R (.lst (es.map dE ++ [dE e]))) := by
        simp [tupleD, asSeq_ref hc']
      refine to_ret ?_
      simp [ht]
      exact ⟨by simp [dEs], Go.set _ S hgo (by omega) hR0⟩
    have hte : tupleD T [.ref R] = some (.tup (es.map dE), T) := by
      simp [tupleD, asSeq_ref hc]
    refine to_nm ?_
    simp [q2]
    refine to_ite ?_
    unfold leftR
    cases e : whenR w o (far + slack) with
    | none =>
      simp
      refine to_exp ?_
      simp [Mth.ok, hc, appendD, hl']
      simpa [dE] using app (time, false) (some .non)
    | some t =>
      have bt := QB_when h1 h2 h3 h4 hfs e
      simp [less_ok bt.2 ht]
      refine ⟨fun c => ?_, fun c => ?_⟩
      · refine to_exp ?_
        simp [Mth.ok, hc, appendD, hl']
        rw [if_pos c]
        simpa [dE] using app (time, false) (some (dI t))
      · have c' : ¬ t.2 < time := by grind
        rw [if_neg c']
        refine to_ite ?_
        have hne := ne_dQ (S := T) (a := t.2) (b := 1)
        rw [dQ_1] at hne
        simp [hne]
        by_cases c1 : t.2 = 1
        · simp [c1]
          refine to_ret ?_
          simp [hte]
          exact ⟨rfl, hgo⟩
        · simp [c1]
          refine to_exp ?_
          simp [Mth.ok, hc, appendD, hl']
          simpa [dE] using app (t.2, false) (some (dI t))
  unfold chR
  refine to_ite ?_
  cases known with
  | true =>
    simp
    refine (fin [] 0 none _ QB_01.1 (by simp) g5 (by simpa using c5)).mono fun f S' q => ?_
    obtain ⟨d, rfl, hd, g⟩ := q
    exact ⟨by simpa using hd, g⟩
  | false =>
    simp
    refine to_nm ?_
    simp [q1]
    cases e : whenR w o far with
    | none =>
      refine to_ite ?_
      simp
      refine to_ret ?_
      simp
      exact ⟨rfl, g5⟩
    | some t =>
      have bt := QB_when h1 h2 h3 h4 hf e
      refine to_ite ?_
      simp
      refine to_exp ?_
      simp [Mth.ok, c5, appendD]
      refine to_nm ?_
      simp
      refine (fin [(t.1, true)] t.1 (some (dI t)) _ bt.1 (by simp) (Go.set _ S g5 (by omega) hR0) (by rw [cell_set (cell_lt c5)]; simp [dE])).mono fun f S' q => ?_
      obtain ⟨d, rfl, hd, g⟩ := q
      exact ⟨by simpa using hd, g⟩
theorem changes_ok {wf n k : Nat} {known : Bool} {w o : Way} {far slack : Int} {S : Sto} (h1 : Sm (w.1.1 - o.1.1)) (h2 : Sm (w.2.1 - o.2.1)) (h3 : Sm (w.1.2 - o.1.2)) (h4 : Sm (w.2.2 - o.2.2)) (hf : Sm far) (hfs : Sm (far + slack)) (hw : 5000000 ≤ wf) (ht : Tn k S) :
    (run F wf (n + 5) i_changes [.bl known, dW w, dW o, .int far, .int slack] S).To fun d S' => d = dEs (chR known w o far slack) ∧ Go 0 S S' := changes_ok0 h1 h2 h3 h4 hf hfs hw ht.pos
@[simp] theorem in_pair {S : Sto} {x a b : Int} : inG (fun b => b) S [.int x, .tup [.int a, .int b]] = some (.bl (decide (x = a ∨ x = b)), S) := by
  have h := inB_int (S := S) (c := .tup [.int a, .int b]) (b := false) (x := x) (ns := [a, b]) rfl rfl
  simp only [inG, h, Option.map_some]
  simp
theorem beside_ok {wf n : Nat} {ds : Doors} {r : Int} {S : Sto} (hz : ds.length ≤ 16777216) : run F wf (n + 1) i_beside [.tup (ds.map pr), .int r] S = .ok (.tup ((bes ds r).map .int)) S := by
  refine R.of_To (run_To h_beside rfl (to_ret ?_))
  simp [f_beside, hz]
  rw [lcD_filt pr (fun p => decide (r = p.1 ∨ r = p.2)) (fun p => .int (p.1 + p.2 - r)) gok_nil ds (fun p hp => by
    by_cases h : r = p.1 ∨ r = p.2 <;> simp [pr, h])]
  have hs : sortedD S [.lst (((ds.filter fun p => decide (r = p.1 ∨ r = p.2)).map fun p => p.1 + p.2 - r).map D.int)] = some (.lst ((bes ds r).map .int), S) := sortedD_int (by simp [itemsOf]) (by
    rw [List.length_map]
    exact Nat.le_trans (List.length_filter_le _ _) (by simpa using hz))
  rw [List.map_map] at hs
  simp [Function.comp_def] at hs ⊢
  simp [hs]
theorem door_pr {a b : Int} : (if b < a then b else a, if b > a then b else a) = (min a b, max a b) := by
  refine Prod.ext ?_ ?_
  · show (if b < a then b else a) = min a b
    omega
  · show (if b > a then b else a) = max a b
    omega
theorem opened_exc {wf n : Nat} {ds : Doors} {a : Int} {S : Sto} : run F wf (n + 1) i_opened [.tup (ds.map pr), .int a, .int a] S = .exc c_NoRoom S := by
  rw [run_at h_opened S rfl]
  simp [f_opened, b_opened, xs_cons, x1_ite, x1_raise_, R.thn, RS.seq, callR]
theorem opened_ok {wf n : Nat} {ds : Doors} {a b : Int} {S : Sto} (hz : ds.length < 63) (hab : a ≠ b) (ha : 0 ≤ a ∧ a < 64) (hb : 0 ≤ b ∧ b < 64) (hd : ∀ p ∈ ds, (0 ≤ p.1 ∧ p.1 < 64) ∧ 0 ≤ p.2 ∧ p.2 < 64) :
    run F wf (n + 1) i_opened [.tup (ds.map pr), .int a, .int b] S = .ok (.tup ((sset (ds ++ [(min a b, max a b)])).map pr)) S := by
  refine R.of_To (run_To h_opened rfl ?_)
  refine to_ite ?_
  simp [f_opened, hab]
  refine to_nm ?_
  simp
  refine to_ret ?_
  have e := door_pr (a := a) (b := b)
  have hs : ssetD S (.tup (ds.map pr ++ [.tup [.int (if b < a then b else a), .int (if a < b then b else a)]])) = some (.lst ((sset (ds ++ [(min a b, max a b)])).map pr)) := by
    rw [← door_pr]
    have := ssetD_pr (S := S) (ns := ds ++ [(if b < a then b else a, if b > a then b else a)]) (by simp; omega) (fun p hp => by
      rcases List.mem_append.mp hp with hp | hp
      · exact hd p hp
      · have : p = (if b < a then b else a, if b > a then b else a) := by simpa using hp
        subst this
        simp only
        constructor <;> constructor <;> split <;> omega)
    simpa [pr] using this
  have hl : ds.length + 1 ≤ 16777216 := by omega
  simp [addD, hl, hs]
theorem shaped_prs (ns : List (Int × Int)) : PyData.canLayAll0 (ns.map fun p => PyData.tuple [.int p.1, .int p.2]) = true ∧ PyData.depthAll (ns.map fun p => PyData.tuple [.int p.1, .int p.2]) ≤ 1 := by
  induction ns with
  | nil => exact ⟨rfl, by simp [PyData.depthAll]⟩
  | cons p ns ih => 
    refine ⟨by simp [PyData.canLayAll0, PyData.canLay0, ih.1], ?_⟩
    have := ih.2
    simp [PyData.depthAll, PyData.depth]
    omega
theorem in_prs {S : Sto} {q : Int × Int} {ds : Doors} : inB S (pr q) (.tup (ds.map pr)) = some (decide (q ∈ ds)) := by
  have h1 := shaped_prs ds
  have e : (ds.map fun p => PyData.tuple [.int p.1, .int p.2]).any (fun z => PyData.eqv z (.tuple [.int q.1, .int q.2])) = decide (q ∈ ds) := by
    rw [List.any_map, Bool.eq_iff_iff]
    simp only [List.any_eq_true, Function.comp_def, decide_eq_true_eq]
    constructor
    · rintro ⟨p, hp, e⟩
      simp [PyData.eqv, PyData.eqvAll] at e
      have : p = q := Prod.ext e.1 e.2
      rw [← this]
      exact hp
    · exact fun h => ⟨q, h, by simp [PyData.eqv, PyData.eqvAll]⟩
  have h2 : D.py S (pr q) = some (.tuple [.int q.1, .int q.2]) := by simp [D.py, pr, D.py0, D.py0L]
  have h3 : dGet S (.tup (ds.map pr)) (pr q) = none := rfl
  simp only [inB, h3, asSeq, h2, py0L_pr]
  rw [if_pos (by
    refine ⟨by simp [SeqAt.shaped, PyData.canLay0, PyData.canLayAll0, PyData.depth, PyData.depthAll], ?_⟩
    have := h1.2
    simp [SeqAt.shaped, PyData.canLay0, PyData.depth, h1.1]
    omega), e]
theorem ne_prs {S : Sto} {p q : Int × Int} : neD S [pr p, pr q] = some (.bl (!decide (p = q)), S) := by
  rw [neD_pl (by simp [pr, pl, plL]) (by simp [pr, pl, plL]) (by simp [pr, dep, depL]) (by simp [pr, dep, depL])]
  have : (pr p = pr q) ↔ p = q := by
    obtain ⟨a, b⟩ := p
    obtain ⟨c, d⟩ := q
    simp [pr]
  by_cases h : p = q <;> simp [this, h]
theorem shut_exc {wf n : Nat} {ds : Doors} {a b : Int} {S : Sto} (h : (min a b, max a b) ∉ ds) : run F wf (n + 1) i_shut [.tup (ds.map pr), .int a, .int b] S = .exc c_NoRoom S := by
  have e : inG (fun b => !b) S [.tup [.int (if b < a then b else a), .int (if a < b then b else a)], .tup (ds.map pr)] = some (.bl true, S) := by
    have := in_prs (S := S) (q := (if b < a then b else a, if b > a then b else a)) (ds := ds)
    rw [door_pr] at this
    have e2 : (pr (min a b, max a b)) = .tup [.int (if b < a then b else a), .int (if a < b then b else a)] := by rw [← door_pr]; rfl
    rw [e2] at this
    simp only [inG, this, Option.map_some]
    simp [h]
  rw [run_at h_shut S rfl]
  simp [f_shut, b_shut, xs_cons, x1_asg, x1_ite, x1_raise_, R.thn, RS.seq, callR, e]
theorem shut_ok {wf n : Nat} {ds : Doors} {a b : Int} {S : Sto} (hz : ds.length ≤ 16777216) (h : (min a b, max a b) ∈ ds) :
    run F wf (n + 1) i_shut [.tup (ds.map pr), .int a, .int b] S = .ok (.tup ((ds.filter fun p => !decide (p = (min a b, max a b))).map pr)) S := by
  have e2 : (pr (min a b, max a b)) = .tup [.int (if b < a then b else a), .int (if a < b then b else a)] := by rw [← door_pr]; rfl
  have e : inG (fun b => !b) S [.tup [.int (if b < a then b else a), .int (if a < b then b else a)], .tup (ds.map pr)] = some (.bl false, S) := by
    have := in_prs (S := S) (q := (min a b, max a b)) (ds := ds)
    rw [e2] at this
    simp only [inG, this, Option.map_some]
    simp [h]
  refine R.of_To (run_To h_shut rfl ?_)
  refine to_nm ?_
  simp [f_shut]
  refine to_ite ?_
  simp [e]
  refine to_ret ?_
  simp [hz]
  rw [lcD_filt pr (fun p => !decide (p = (min a b, max a b))) pr gok_nil ds (fun p hp => by
    have := ne_prs (S := S) (p := p) (q := (min a b, max a b))
    rw [e2] at this
    simp [this]
    by_cases h : p = (min a b, max a b) <;> simp [h])]
  simp
abbrev kvL (L : List (Int × Int)) : List (L2.Key × D) := kvi (·.1) (fun p => D.int p.2) L
theorem look_kvL {L : List (Int × Int)} {x : Int} (h : x ∉ L.map (·.1)) : look (kvL L) (.inl x) = none := by
  unfold look kvL kvi
  rw [List.find?_eq_none.mpr]
  · rfl
  · intro kv hkv
    obtain ⟨p, hp, rfl⟩ := List.mem_map.mp hkv
    simp only [decide_eq_true_eq]
    intro e
    cases e
    exact h (List.mem_map.mpr ⟨p, hp, rfl⟩)
theorem putD_kvL {L : List (Int × Int)} {x d : Int} (h : x ∉ L.map (·.1)) : putD (kvL L) (.inl x) (.int d) = kvL (L ++ [(x, d)]) := by
  unfold putD
  rw [if_neg]
  · simp [kvL, kvi]
  · simp only [List.any_eq_true, decide_eq_true_eq]
    rintro ⟨kv, hkv, e⟩
    obtain ⟨p, hp, rfl⟩ := List.mem_map.mp hkv
    cases e
    exact h (List.mem_map.mpr ⟨p, hp, rfl⟩)
theorem ap0 {S : Sto} {a b : Cell} : (S ++ [a, b])[S.length]? = some a := by simp
theorem ap1 {S : Sto} {a b : Cell} : (S ++ [a, b])[S.length + 1]? = some b := by simp
theorem st0 {S : Sto} {a b c : Cell} : (S ++ [a, b]).set S.length c = S ++ [c, b] := by simp
theorem st1 {S : Sto} {a b c : Cell} : (S ++ [a, b]).set (S.length + 1) c = S ++ [a, c] := by simp
def todoL (L : List (Int × Int)) (k : Nat) : List D := ((L.drop k).map (·.1)).map D.int
abbrev stK (S : Sto) (L : List (Int × Int)) (k : Nat) : Sto := S ++ [.dK (kvL L), .lst (todoL L k)]
theorem pop_todo {S : Sto} {L : List (Int × Int)} {k : Nat} {h : Int × Int} (e : L[k]? = some h) : popLD (stK S L k) [.ref (S.length + 1), .int 0] = some (.int h.1, S ++ [.dK (kvL L), .lst (todoL L (k + 1))]) := by
  obtain ⟨hk, e'⟩ := List.getElem?_eq_some_iff.mp e
  have h1 : todoL L k = .int h.1 :: todoL L (k + 1) := by
    unfold todoL
    rw [List.drop_eq_getElem_cons hk, e']
    rfl
  have h2 : cellL (stK S L k) (S.length + 1) = some (.int h.1 :: todoL L (k + 1)) := by
    unfold cellL
    rw [ap1, h1]
  have h3 : seqIndex? 0 (D.int h.1 :: todoL L (k + 1)).length = some 0 := by
    simp [seqIndex?]
  simp only [popLD, h2]
  rw [if_pos (by decide), h3]
  simp only [List.getElem?_cons_zero, List.eraseIdx_zero, List.tail_cons]
  rw [st1]
theorem nmem_kv {S : Sto} {L : List (Int × Int)} {k : Nat} {x : Int} : inG (fun b => !b) (stK S L k) [.int x, .ref S.length] = some (.bl (!decide (x ∈ L.map (·.1))), stK S L k) := by
  have e : dGet (stK S L k) (.ref S.length) (.int x) = some (look (kvL L) (.inl x)) := by
    simp [dGet, ap0, keyOf]
  have e2 : (look (kvL L) (.inl x)).isSome = decide (x ∈ L.map (·.1)) := by
    by_cases h : x ∈ L.map (·.1)
    · rw [decide_eq_true h]
      unfold look
      rw [Option.isSome_map, List.find?_isSome]
      obtain ⟨p, hp, rfl⟩ := List.mem_map.mp h
      exact ⟨_, List.mem_map.mpr ⟨p, hp, rfl⟩, by simp⟩
    · rw [decide_eq_false h, look_kvL h]
      rfl
  simp only [inG, inB, e, Option.map_some, e2]
theorem set_kv {S : Sto} {L : List (Int × Int)} {k : Nat} {x d : Int} (h : x ∉ L.map (·.1)) (hl : L.length < 16777216) : setS (stK S L k) (.ref S.length) (.int x) (.int d) = some (S ++ [.dK (kvL (L ++ [(x, d)])), .lst (todoL L k)]) := by
  have hl' : (kvL L).length < sizeLine := by simp [kvL, kvi]; omega
  unfold setS
  simp only [ap0, keyOf]
  rw [if_pos hl', st0, putD_kvL h]
theorem app_todo {S : Sto} {L : List (Int × Int)} {k : Nat} {x d : Int} (hk : k + 1 ≤ L.length) (hl : L.length < 16777216) : appendD (S ++ [.dK (kvL (L ++ [(x, d)])), .lst (todoL L (k + 1))]) [.ref (S.length + 1), .int x] = some (.non, stK S (L ++ [(x, d)]) (k + 1)) := by
  have h1 : cellL (S ++ [.dK (kvL (L ++ [(x, d)])), .lst (todoL L (k + 1))]) (S.length + 1) = some (todoL L (k + 1)) := by
    unfold cellL
    rw [ap1]
  have h2 : (todoL L (k + 1)).length < sizeLine := by simp [todoL]; omega
  simp only [appendD, h1]
  rw [if_pos h2, st1]
  have h3 : todoL (L ++ [(x, d)]) (k + 1) = todoL L (k + 1) ++ [.int x] := by
    unfold todoL
    rw [List.drop_append_of_le_length hk]
    simp
  rw [← h3]
theorem bfsFold_len {d : Int} : ∀ (xs : List Int) (L : List (Int × Int)), (xs.foldl (bfsAdd d) L).length ≤ L.length + xs.length
  | [], L => by simp
  | x :: xs, L => by
    have h := bfsFold_len (d := d) xs (bfsAdd d L x)
    have h2 : (bfsAdd d L x).length ≤ L.length + 1 := by
      unfold bfsAdd
      split
      · omega
      · simp
    simp only [List.foldl_cons, List.length_cons]
    omega
theorem steps_ok {wf n : Nat} {ds : Doors} {r : Int} {S : Sto} (ok : DOk ds) (hz : ds.length ≤ 1000) (hr : 0 ≤ r ∧ r ≤ 9) (hw : 20 ≤ wf) :
    (run F wf (n + 2) i_steps [.tup (ds.map pr), .int r] S).To fun d S' => ∃ L, Bfs ds r L L.length ∧ d = .pt (((L.map (·.1)).mergeSort fun a b => decide (a ≤ b)).map fun x => .tup [.int x, (look (kvL L) (.inl x)).getD .non]) ∧ S' = stK S L L.length := by
  refine run_To h_steps rfl ?_
  refine to_nm ?_
  simp [f_steps, cellK, pairUp, keyOf, mergeD, putD]
  refine to_nm ?_
  simp
  obtain ⟨I, hI⟩ : ∃ I : Nat → NT.Env → Sto → Prop, ∀ m ρ T, I m ρ T ↔ (∃ L k x4 x5 x6, ρ = [some (.tup (ds.map pr)), some (.int r), some (.ref S.length), some (.ref (S.length + 1)), x4, x5, x6] ∧ T = stK S L k ∧ Bfs ds r L k ∧ 12 ≤ m + k) := ⟨_, fun _ _ _ => Iff.rfl⟩
  refine to_while I ((hI _ _ _).mpr ⟨[(r, 0)], 0, _, _, _, rfl, by simp [stK, todoL, kvL, kvi], Bfs.start hr, by omega⟩) ?_
  intro m ρ T hi
  obtain ⟨L, k, x4, x5, x6, rfl, rfl, B, hm⟩ := (hI _ _ _).mp hi
  have hten := B.ten
  have hle := B.le
  obtain ⟨m', rfl⟩ : ∃ m', m = m' + 1 := ⟨m - 1, by omega⟩
  refine ⟨m', rfl, ?_⟩
  have htru : truB (stK S L k) (.ref (S.length + 1)) = some (decide (k < L.length)) := by
    simp [truB, asSeq, ap1, todoL]
    by_cases h : k < L.length
    · simp [h]
    · simp [h]; omega
  simp only [e1_var, plain2]
  simp [htru]
  refine ⟨fun hk => ?_, fun hk => ?_⟩
  · have hkl : k < L.length := by omega
    have eh : L[k]? = some L[k] := List.getElem?_eq_getElem hkl
    generalize L[k] = h at eh
    have hok : Mth.ok .popL (stK S L k) (.ref (S.length + 1)) = true := by
      simp [Mth.ok, cellL, ap1]
    refine to_nm ?_
    simp [hok, pop_todo eh]
    have hbl : (bes ds h.1).length ≤ 1000 := by
      unfold bes
      rw [List.length_mergeSort, List.length_map]
      exact Nat.le_trans (List.length_filter_le _ _) hz
    have hit : evIt (run F wf (n + 1)) (.seq (.call i_beside (.cons (.var 0) (.cons (.var 4) .nil)))) [some (.tup (ds.map pr)), some (.int r), some (.ref S.length), some (.ref (S.length + 1)), some (.int h.1), x5, x6] (stK S L (k + 1)) = .ok ((bes ds h.1).map .int, []) (stK S L (k + 1)) := by
      have := beside_ok (wf := wf) (n := n) (ds := ds) (r := h.1) (S := stK S L (k + 1)) (by omega)
      simp [this]
    obtain ⟨J, hJ⟩ : ∃ J : List D → NT.Env → Sto → Prop, ∀ items ρ T, J items ρ T ↔ (∃ done xs x5, items = xs.map D.int ∧ bes ds h.1 = done ++ xs ∧ ρ = [some (.tup (ds.map pr)), some (.int r), some (.ref S.length), some (.ref (S.length + 1)), some (.int h.1), x5, x6] ∧ T = stK S (done.foldl (bfsAdd (h.2 + 1)) L) (k + 1)) := ⟨_, fun _ _ _ => Iff.rfl⟩
    refine to_for hit J ((hJ _ _ _).mpr ⟨[], bes ds h.1, _, rfl, rfl, rfl, rfl⟩) (fun _ _ _ _ => gok_nil) (fun d items ρ T hj => ?_) (fun ρ T hj => ?_)
    · obtain ⟨done, xs, y5, e1, e2, rfl, rfl⟩ := (hJ _ _ _).mp hj
      cases xs with
      | nil => cases e1
      | cons x xs =>
        cases e1
        obtain ⟨M, m1, m2, m3, m4⟩ := bfsFold_pre (d := h.2 + 1) done L
        have nd : ((done.foldl (bfsAdd (h.2 + 1)) L).map (·.1)).Nodup := by
          rw [m1, List.map_append, List.nodup_append]
          refine ⟨B.nd, m4, fun a ha b hb => ?_⟩
          rintro rfl
          obtain ⟨p, hp, rfl⟩ := List.mem_map.mp hb
          exact m3 p hp ha
        have hmem : h ∈ done.foldl (bfsAdd (h.2 + 1)) L := bfsFold_sub _ _ h (List.mem_of_getElem? eh)
        have hlen : k + 1 ≤ (done.foldl (bfsAdd (h.2 + 1)) L).length := by
          rw [m1]; simp; omega
        have hnx : J (xs.map D.int) [some (.tup (ds.map pr)), some (.int r), some (.ref S.length), some (.ref (S.length + 1)), some (.int h.1), some (.int x), x6] (stK S (bfsAdd (h.2 + 1) (done.foldl (bfsAdd (h.2 + 1)) L) x) (k + 1)) :=
          (hJ _ _ _).mpr ⟨done ++ [x], xs, _, rfl, by rw [e2]; simp, rfl, by simp⟩
        have hL' : (done.foldl (bfsAdd (h.2 + 1)) L).length ≤ 16777000 := by
          have h1 := bfsFold_len (d := h.2 + 1) done L
          have h2 : done.length ≤ 1000 := by
            rw [e2] at hbl
            simp at hbl
            omega
          omega
        generalize done.foldl (bfsAdd (h.2 + 1)) L = L' at nd hmem hlen hnx hL'
        refine ⟨_, rfl, ?_⟩
        refine to_ite ?_
        simp [nmem_kv, -List.mem_map]
        refine ⟨fun hx => ?_, fun hx => ?_⟩
        · have e : bfsAdd (h.2 + 1) L' x = L' ++ [(x, h.2 + 1)] := if_neg hx
          rw [e] at hnx
          refine to_setI ?_
          have e1 : idxD (stK S L' (k + 1)) [.ref S.length, .int h.1] = some (.int h.2, stK S L' (k + 1)) := idx_kvi (k := fun p : Int × Int => p.1) (v := fun p => D.int p.2) (x := h) ap0 nd hmem
          simp [e1]
          refine ⟨_, set_kv hx (by omega), ?_⟩
          refine to_exp ?_
          have e3 := app_todo (S := S) (L := L') (k := k) (x := x) (d := h.2 + 1) hlen (by omega)
          have e4 : Mth.ok .append (S ++ [.dK (kvL (L' ++ [(x, h.2 + 1)])), .lst (todoL L' (k + 1))]) (.ref (S.length + 1)) = true := by
            simp [Mth.ok, cellL, ap1]
          simp [e3, e4]
          exact to_nil hnx
        · have e : bfsAdd (h.2 + 1) L' x = L' := if_pos hx
          rw [e] at hnx
          exact to_nil hnx
    · obtain ⟨done, xs, y5, e1, e2, rfl, rfl⟩ := (hJ _ _ _).mp hj
      cases xs with
      | cons x xs => cases e1
      | nil =>
        have e3 : done = bes ds h.1 := by simpa using e2.symm
        subst e3
        exact to_nil ((hI _ _ _).mpr ⟨_, k + 1, _, _, _, rfl, rfl, B.step ok eh, by omega⟩)
  · have hkl : k = L.length := by omega
    subst hkl
    refine to_ret ?_
    have hs : sortedD (stK S L L.length) [.ref S.length] = some (.lst (((L.map (·.1)).mergeSort fun a b => decide (a ≤ b)).map .int), stK S L L.length) := sortedD_int (keys_kvi ap0) (by simp; omega)
    simp [hs]
    have hsz : L.length ≤ 16777216 := by omega
    rw [if_pos hsz, lcD_all D.int (fun x => .tup [.int x, (look (kvL L) (.inl x)).getD .non]) gok_nil _ (fun x hx => by
      rw [List.mem_mergeSort] at hx
      obtain ⟨p, hp, rfl⟩ := List.mem_map.mp hx
      have e1 : idxD (stK S L L.length) [.ref S.length, .int p.1] = some (.int p.2, stK S L L.length) := idx_kvi (k := fun p : Int × Int => p.1) (v := fun p => D.int p.2) (x := p) ap0 B.nd hp
      have e2 := look_kvi (k := fun p : Int × Int => p.1) (v := fun p => D.int p.2) B.nd hp
      have e3 : look (kvL L) (.inl p.1) = some (.int p.2) := e2
      simp [e1, e3])]
    simp
    exact ⟨L, B, rfl, rfl, rfl⟩
theorem mem_key {L : List (Int × Int)} (nd : (L.map (·.1)).Nodup) {p q : Int × Int} (hp : p ∈ L) (hq : q ∈ L) (e : p.1 = q.1) : p = q := by
  obtain ⟨i, hi⟩ := List.getElem?_of_mem hp
  obtain ⟨j, hj⟩ := List.getElem?_of_mem hq
  have hi' : (L.map (·.1))[i]? = some p.1 := by rw [List.getElem?_map, hi]; rfl
  have hj' : (L.map (·.1))[j]? = some p.1 := by rw [List.getElem?_map, hj, e]; rfl
  have hij := (List.getElem?_inj (List.getElem?_eq_some_iff.mp hi').1 nd).mp (hi'.trans hj'.symm)
  subst hij
  rw [hi] at hj
  exact Option.some.inj hj
theorem keys_dl {ds : Doors} {r : Int} {L : List (Int × Int)} (B : Bfs ds r L L.length) : (((L.map (·.1)).mergeSort fun a b => decide (a ≤ b)).map fun x => D.tup [.int x, (look (kvL L) (.inl x)).getD .non]) = (dl ds r).map pr := by
  obtain ⟨f, hf⟩ : ∃ f : Int → Int, ∀ p ∈ L, f p.1 = p.2 := by
    refine ⟨fun x => ((L.find? fun p => decide (p.1 = x)).map (·.2)).getD 0, fun p hp => ?_⟩
    cases e : L.find? fun q => decide (q.1 = p.1) with
    | none => exact absurd (List.find?_eq_none.mp e p hp) (by simp)
    | some q =>
      have h1 := List.mem_of_find?_eq_some e
      have h2 := List.find?_some e
      have := mem_key B.nd h1 hp (by simpa using h2)
      simp [e, this]
  have hmem : ∀ x, x ∈ ((L.map (·.1)).mergeSort fun a b => decide (a ≤ b)) ↔ ∃ p ∈ L, p.1 = x := fun x => by
    rw [List.mem_mergeSort, List.mem_map]
  have e1 : (((L.map (·.1)).mergeSort fun a b => decide (a ≤ b)).map fun x => D.tup [.int x, (look (kvL L) (.inl x)).getD .non]) = (((L.map (·.1)).mergeSort fun a b => decide (a ≤ b)).map fun x => (x, f x)).map pr := by
    rw [List.map_map]
    refine List.map_congr_left fun x hx => ?_
    obtain ⟨p, hp, rfl⟩ := (hmem x).mp hx
    have e2 : look (kvL L) (.inl p.1) = some (.int p.2) := look_kvi (k := fun p : Int × Int => p.1) (v := fun p => D.int p.2) B.nd hp
    rw [e2]
    simp [pr, hf p hp]
  rw [e1]
  congr 1
  refine up_uniq ?_ (dl_up ds r) fun p => ?_
  · rw [List.pairwise_map]
    have h1 : ((L.map (·.1)).mergeSort fun a b => decide (a ≤ b)).Pairwise fun a b => decide (a ≤ b) = true := List.pairwise_mergeSort (by intro a b c; simp; omega) (by intro a b; simp; omega) _
    have h2 : ((L.map (·.1)).mergeSort fun a b => decide (a ≤ b)).Nodup := (List.mergeSort_perm _ _).nodup_iff.mpr B.nd
    rw [List.nodup_iff_pairwise_ne] at h2
    refine (h1.and h2).imp fun {a b} ⟨x, y⟩ => ?_
    have x' : a ≤ b := by simpa using x
    show a < b
    omega
  · obtain ⟨x, n⟩ := p
    rw [mem_dl, List.mem_map]
    constructor
    · rintro ⟨y, hy, e⟩
      obtain ⟨q, hq, rfl⟩ := (hmem y).mp hy
      cases e
      obtain ⟨m, e3, _, hd⟩ := B.dst hq
      exact ⟨B.rng q hq, m, by rw [hf q hq]; exact e3, hd⟩
    · rintro ⟨hx, m, rfl, hd⟩
      have h1 := B.found hd
      exact ⟨x, (hmem x).mpr ⟨_, h1, rfl⟩, by rw [show f x = (m : Int) from hf _ h1]⟩
theorem steps_dl {wf n : Nat} {ds : Doors} {r : Int} {S : Sto} (ok : DOk ds) (hz : ds.length ≤ 1000) (hr : 0 ≤ r ∧ r ≤ 9) (hw : 20 ≤ wf) :
    ∃ c1 c2, run F wf (n + 2) i_steps [.tup (ds.map pr), .int r] S = .ok (.pt ((dl ds r).map pr)) (S ++ [c1, c2]) := by
  obtain ⟨d, S', e, L, B, rfl, rfl⟩ := steps_ok (wf := wf) (n := n) (S := S) ok hz hr hw
  rw [keys_dl B] at e
  exact ⟨_, _, e⟩
theorem dl_len (ds : Doors) (r : Int) : (dl ds r).length ≤ 10 := by
  unfold dl
  exact Nat.le_trans (List.length_filterMap_le _ _) (by simp)
theorem doors_len {ds : Doors} (h : DOk ds) : ds.length ≤ 45 := by
  have h1 : (ds.map fun p => (p.1 * 10 + p.2).toNat).Nodup := by
    rw [List.nodup_iff_pairwise_ne, List.pairwise_map]
    refine List.Pairwise.imp_of_mem (fun {p q} hp hq hpq e => ?_) h.up
    have b1 := h.bd p hp
    have b2 := h.bd q hq
    simp only [prLt, decide_eq_true_eq] at hpq
    omega
  have := L2.nat_nodup_len _ ((List.range 100).filter fun i => decide (i / 10 < i % 10)) h1 fun x hx => by
    obtain ⟨p, hp, rfl⟩ := List.mem_map.mp hx
    have b := h.bd p hp
    rw [List.mem_filter, List.mem_range, decide_eq_true_eq]
    omega
  have e : ((List.range 100).filter fun i => decide (i / 10 < i % 10)).length = 45 := by decide
  rw [e] at this
  simpa using this
theorem reach_ok {wf n : Nat} {ds : Doors} {r deep : Int} {S : Sto} (ok : DOk ds) (hz : ds.length ≤ 1000) (hr : 0 ≤ r ∧ r ≤ 9) (hw : 20 ≤ wf) :
    ∃ c1 c2, run F wf (n + 3) i_reach [.tup (ds.map pr), .int r, .int deep] S = .ok (.tup (((dl ds r).filter fun p => decide (p.2 ≤ deep)).map fun p => .int p.1)) (S ++ [c1, c2]) := by
  obtain ⟨c1, c2, e⟩ := steps_dl (wf := wf) (n := n) (S := S) ok hz hr hw
  refine ⟨c1, c2, R.of_To (run_To h_reach rfl (to_ret ?_))⟩
  have hl := dl_len ds r
  have hl' : (dl ds r).length ≤ 16777216 := by omega
  simp [f_reach, e, hl']
  rw [lcD_filt pr (fun p => decide (p.2 ≤ deep)) (fun p => .int p.1) gok_nil _ (fun p hp => by
    by_cases h : p.2 ≤ deep <;> simp [pr, h])]
  simp
theorem reach_reachL {wf n : Nat} {ds : Doors} {r deep : Int} {S : Sto} (ok : DOk ds) (hr : 0 ≤ r ∧ r ≤ 9) (hw : 20 ≤ wf) :
    ∃ c1 c2, run F wf (n + 3) i_reach [.tup (ds.map pr), .int r, .int deep] S = .ok (iL (reachL ds r deep)) (S ++ [c1, c2]) := by
  obtain ⟨c1, c2, e⟩ := reach_ok (wf := wf) (n := n) (ds := ds) (r := r) (deep := deep) (S := S) ok (by have := doors_len ok; omega) hr hw
  refine ⟨c1, c2, ?_⟩
  rw [e]
  unfold iL reachL
  rw [List.map_map]
  rfl
theorem mem_sset {ns : List (Int × Int)} {p : Int × Int} : p ∈ sset ns ↔ p ∈ ns := by
  unfold sset
  rw [List.mem_mergeSort, mem_ddup]
theorem sset_up (ns : List (Int × Int)) : (sset ns).Pairwise fun p q => prLt p q = true := by
  have h1 : (sset ns).Pairwise fun p q => prLe p q = true := List.pairwise_mergeSort prLe_trans prLe_total _
  have h2 : (sset ns).Nodup := (List.mergeSort_perm _ _).nodup_iff.mpr (nodup_ddup ns)
  rw [List.nodup_iff_pairwise_ne] at h2
  refine (h1.and h2).imp fun {p q} ⟨x, y⟩ => ?_
  simp only [prLe, prLt, decide_eq_true_eq] at x ⊢
  have : ¬ (p.1 = q.1 ∧ p.2 = q.2) := fun z => y (Prod.ext z.1 z.2)
  omega
theorem DOk.opened {ds : Doors} (h : DOk ds) {a b : Int} (hab : a ≠ b) (ha : 0 ≤ a ∧ a ≤ 9) (hb : 0 ≤ b ∧ b ≤ 9) : DOk (sset (ds ++ [(min a b, max a b)])) := by
  refine ⟨fun p hp => ?_, sset_up _⟩
  rcases List.mem_append.mp (mem_sset.mp hp) with hp | hp
  · exact h.bd p hp
  · have : p = (min a b, max a b) := by simpa using hp
    subst this
    simp only
    omega
theorem DOk.shut {ds : Doors} (h : DOk ds) (q : Int × Int) : DOk (ds.filter fun p => !decide (p = q)) :=
  ⟨fun p hp => h.bd p (List.mem_filter.mp hp).1, h.up.sublist List.filter_sublist⟩
theorem ddup_len {A : Type} [DecidableEq A] : ∀ l : List A, (ddup l).length ≤ l.length
  | [] => Nat.le_refl _
  | a :: l => by
    have := ddup_len l
    unfold ddup
    split
    · simp; omega
    · simp; omega
theorem sset_len (ns : List (Int × Int)) : (sset ns).length ≤ ns.length := by
  unfold sset
  rw [List.length_mergeSort]
  exact ddup_len ns
theorem DOk.nil : DOk [] := ⟨by simp, by simp⟩
theorem chosen_ok {wf n : Nat} {ts : List Thing} {p : Int × Int} {kept : List Int} {most slack : Int} {S : Sto} (hz : ts.length ≤ 1000) (hm : 0 ≤ most) (h0 : 0 < S.length) :
    (run F wf (n + 2) i_chosen [dB ts, dP p, iL kept, .int most, .int slack] S).To fun d S' => d = iL (chosenL ts p kept most slack) ∧ Go 0 S S' := by
  obtain ⟨i0, hi0⟩ : ∃ i0, i0 = S.length := ⟨_, rfl⟩
  refine run_To h_chosen rfl (to_nm ?_)
  simp [f_chosen]
  rw [← hi0]
  obtain ⟨J, hJ⟩ : ∃ J : List Thing → NT.Env → Sto → Prop, ∀ pre ρ S', J pre ρ S' ↔ (∃ x6 x7 x8 x9 x10, ρ = [some (dB ts), some (dP p), some (iL kept), some (.int most), some (.int slack), some (.ref i0), x6, x7, x8, x9, x10] ∧ Go 0 S S' ∧ cellL S' i0 = some ((pre.map (chRow p kept slack)).map pr)) := ⟨_, fun _ _ _ => Iff.rfl⟩
  refine to_forP (g := dT) (xs := ts) (S1 := S ++ [.lst []]) (by simp [dB, asSeq_tup]) J ((hJ _ _ _).mpr ⟨_, _, _, _, _, rfl, Go.push _ h0, by simp [cellL, hi0]⟩) ?_ ?_
  · intro pre t post ρ S' ex hj
    obtain ⟨x6, x7, x8, x9, x10, rfl, hg, hc⟩ := (hJ _ _ _).mp hj
    have hlen : pre.length < 1000 := by
      have := congrArg List.length ex
      simp at this
      omega
    refine ⟨_, rfl, to_nm ?_⟩
    have hin := inB_int (S := S') (c := iL kept) (b := false) (x := t.n) (ns := kept) rfl rfl
    have ap : ∀ (v : Int) (x6 x7 x8 x9 x10 : Option D), v = cheb t.p p - (if t.n ∈ kept then slack else 0) → x6 = some (.int t.n) → x10 = some (.int v) → (exs (run F wf (n + 1)) wf (.cons (.exp (.mth .append (.var 5) (.cons (.tup (.cons (.var 10) (.cons (.var 6) .nil))) .nil))) .nil) [some (dB ts), some (dP p), some (iL kept), some (.int most), some (.int slack), some (.ref i0), x6, x7, x8, x9, x10] S').To fun f S' => match f with
        | .nx ρ' => J (pre ++ [t]) ρ' S' | .ct ρ' => J (pre ++ [t]) ρ' S' | .bk ρ' => (exs (run F wf (n + 1)) wf (.cons (.ret (.bt .tuple (.cons (.bi .sorted (.cons (.comp (.tp [10, 6]) (.seq (.slc (.bi .sorted (.cons (.var 5) .nil)) .no (.var 3))) .no (.var 6) [6, 10]) .nil)) .nil))) .nil) ρ' S').To fun f S' => match f with | .nx ρ => D.non = iL (chosenL ts p kept most slack) ∧ Go 0 S S' | .rt d => d = iL (chosenL ts p kept most slack) ∧ Go 0 S S' | _ => False
        | .rt v => v = iL (chosenL ts p kept most slack) ∧ Go 0 S S' := by
      intro v x6 x7 x8 x9 x10 hv h6 h10
      subst h6 h10
      have hl : ((pre.map (chRow p kept slack)).map pr).length < 16777216 := by simp; omega
      refine to_exp ?_
      have hl2 : pre.length < 16777216 := by omega
      simp [Mth.ok, hc, appendD, hl2]
      refine to_nil ((hJ _ _ _).mpr ⟨_, _, _, _, _, rfl, Go.set _ S hg (by omega) (by omega), ?_⟩)
      rw [cell_set (cell_lt hc)]
      simp [chRow, pr, hv]
    simp [dT, distance_ok]
    refine to_ite ?_
    by_cases q : t.n ∈ kept
    · simp [inG, hin, q]
      refine to_nm ?_
      simp
      exact ap _ _ _ _ _ _ (by rw [if_pos q]) rfl rfl
    · simp [inG, hin, q]
      exact ap _ _ _ _ _ _ (by rw [if_neg q]; omega) rfl rfl
  · intro ρ S' hj
    obtain ⟨x6, x7, x8, x9, x10, rfl, hg, hc⟩ := (hJ _ _ _).mp hj
    refine to_ret ?_
    have hs : sortedD S' [.ref i0] = some (.lst (((ts.map (chRow p kept slack)).mergeSort prLe).map pr), S') := sortedD_pr (by simp [itemsOf, asSeq_ref hc]) (by simp; omega)
    have hl : min most.toNat ts.length ≤ 16777216 := by omega
    have hl2 : ts.length ≤ 16777216 := by omega
    simp [hs, slcF, cut_to _ _ hm, hl]
    rw [← List.map_take, lcD_all pr (fun q => .int q.2) gok_nil _ (fun t ht => by simp [pr])]
    have hs2 := sortedD_int (S := S') (d := .lst ((((((ts.map (chRow p kept slack)).mergeSort prLe).take most.toNat)).map (·.2)).map D.int)) (ns := (((ts.map (chRow p kept slack)).mergeSort prLe).take most.toNat).map (·.2)) (by simp [itemsOf]) (by simp; omega)
    rw [List.map_map] at hs2
    have hs3 : sortedD S' [.lst ((((ts.map (chRow p kept slack)).mergeSort prLe).take most.toNat).map fun q => D.int q.2)] = some (.lst ((chosenL ts p kept most slack).map .int), S') := hs2
    have hl3 : (chosenL ts p kept most slack).length ≤ 16777216 := by have := chosen_len ts p kept most slack; omega
    rw [List.map_take] at hs3
    simp [hs3, hl3, iL, hg]
theorem chosen_on_ok {wf n : Nat} {bs : List (List Thing)} {p : Int × Int} {most slack : Int} {S : Sto} (hz : ∀ b ∈ bs, b.length ≤ 1000) (hb : bs.length ≤ 1000) (hm : 0 ≤ most) (h0 : 0 < S.length) :
    (run F wf (n + 3) i_chosen_on [.tup (bs.map dB), dP p, .int most, .int slack] S).To fun d S' => d = .tup ((chainL p most slack [] bs).map iL) ∧ Go 0 S S' := by
  obtain ⟨i0, hi0⟩ : ∃ i0, i0 = S.length := ⟨_, rfl⟩
  refine run_To h_chosen_on rfl (to_nm ?_)
  simp [f_chosen_on]
  rw [← hi0]
  refine to_nm ?_
  simp
  obtain ⟨J, hJ⟩ : ∃ J : List (List Thing) → NT.Env → Sto → Prop, ∀ pre ρ S', J pre ρ S' ↔ (∃ x6, ρ = [some (.tup (bs.map dB)), some (dP p), some (.int most), some (.int slack), some (.ref i0), some (iL (lastC [] (chainL p most slack [] pre))), x6] ∧ Go 0 S S' ∧ cellL S' i0 = some ((chainL p most slack [] pre).map iL)) := ⟨_, fun _ _ _ => Iff.rfl⟩
  refine to_forP (g := dB) (xs := bs) (S1 := S ++ [.lst []]) (by simp [asSeq_tup]) J ((hJ _ _ _).mpr ⟨_, rfl, Go.push _ h0, by simp [cellL, hi0, chainL]⟩) ?_ ?_
  · intro pre b post ρ S' ex hj
    obtain ⟨x6, rfl, hg, hc⟩ := (hJ _ _ _).mp hj
    have hlen : pre.length < 1000 := by
      have := congrArg List.length ex
      simp at this
      omega
    have hi1 : i0 < S'.length := cell_lt hc
    refine ⟨_, rfl, to_nm ?_⟩
    obtain ⟨d, S2, e, rfl, g⟩ := chosen_ok (wf := wf) (n := n) (ts := b) (p := p) (kept := lastC [] (chainL p most slack [] pre)) (most := most) (slack := slack) (S := S') (hz b (by rw [ex]; simp)) hm (by omega)
    simp [e]
    have hc2 : cellL S2 i0 = some ((chainL p most slack [] pre).map iL) := cell_old g (by omega) hc
    refine to_exp ?_
    have hl : (chainL p most slack [] pre).length < 16777216 := by rw [chainL_len]; omega
    have ech : chainL p most slack [] (pre ++ [b]) = chainL p most slack [] pre ++ [chosenL b p (lastC [] (chainL p most slack [] pre)) most slack] := chainL_app _ _ _ _ _ _
    simp [Mth.ok, hc2, appendD, hl]
    refine to_nil ((hJ _ _ _).mpr ⟨some (dB b), ?_, Go.set _ S ((hg.trans g).mono (by omega)) (by omega) (by omega), ?_⟩)
    · rw [ech, lastC_app]
    · rw [cell_set (cell_lt hc2), ech]
      simp
  · intro ρ S' hj
    obtain ⟨x6, rfl, hg, hc⟩ := (hJ _ _ _).mp hj
    refine to_ret ?_
    have ht : tupleD S' [.ref i0] = some (.tup ((chainL p most slack [] bs).map iL), S') := by
      simp [tupleD, asSeq_ref hc]
    simp [ht, hg]
theorem flickers_ok {wf n : Nat} {rows : List (List Int)} {S : Sto} (hz : ∀ r ∈ rows, r.length ≤ 1000) (hb : rows.length ≤ 1000) :
    run F wf (n + 1) i_flickers [.tup (rows.map iL)] S = .ok (.int (flickL rows)) S := by
  refine R.of_To (run_To h_flickers rfl (to_nm ?_))
  simp [f_flickers]
  obtain ⟨J, hJ⟩ : ∃ J : List (List Int × List Int) → NT.Env → Sto → Prop, ∀ pre ρ S', J pre ρ S' ↔ (∃ x2 x3, ρ = [some (.tup (rows.map iL)), some (.int (flickP pre)), x2, x3, none] ∧ S' = S) := ⟨_, fun _ _ _ => Iff.rfl⟩
  have e0 : List.map (fun p => D.tup [p.fst, p.snd]) ((List.map iL rows).dropLast.zip (List.map iL rows).tail) = (List.zip rows.dropLast (rows.drop 1)).map fun q => D.tup [iL q.1, iL q.2] := by
    rw [← zip_prs, List.map_dropLast, ← List.map_tail, List.drop_one]
  refine to_forP (g := fun q : List Int × List Int => .tup [iL q.1, iL q.2]) (xs := List.zip rows.dropLast (rows.drop 1)) (S1 := S) (by
    have hz2 : rows.length ≤ 16777217 := by omega
    simp [slcF, cut_but, cut_tl, hz2]
    rw [e0]; simp) J ((hJ _ _ _).mpr ⟨_, _, rfl, rfl⟩) ?_ ?_
  · intro pre q post ρ S' ex hj
    obtain ⟨x2, x3, rfl, rfl⟩ := (hJ _ _ _).mp hj
    obtain ⟨a, b⟩ := q
    have hm : (a, b) ∈ List.zip rows.dropLast (rows.drop 1) := by rw [ex]; simp
    have ha : a.length ≤ 1000 := hz a ((List.dropLast_sublist rows).subset (List.of_mem_zip hm).1)
    have hb' : b.length ≤ 1000 := hz b ((List.drop_sublist 1 rows).subset (List.of_mem_zip hm).2)
    have ha2 : a.length ≤ 16777216 := by omega
    have hb2 : b.length ≤ 16777216 := by omega
    have nin : ∀ (x : Int) (l : List Int), inG (fun b => !b) S' [.int x, iL l] = some (.bl (!decide (x ∈ l)), S') := fun x l => by
      have := inB_int (S := S') (c := iL l) (b := false) (x := x) (ns := l) rfl rfl
      simp only [inG, this, Option.map_some]
    refine ⟨_, rfl, to_nm ?_⟩
    have nin' : ∀ (x : Int) (l : List Int), inG (fun b => !b) S' [.int x, .tup (l.map .int)] = some (.bl (!decide (x ∈ l)), S') := nin
    have la : (a.filter fun x => !decide (x ∈ b)).length ≤ 16777216 := Nat.le_trans (List.length_filter_le _ _) ha2
    have lb : (b.filter fun x => !decide (x ∈ a)).length ≤ 16777216 := Nat.le_trans (List.length_filter_le _ _) hb2
    simp [iL, ha2]
    rw [lcD_filt D.int (fun x => !decide (x ∈ b)) D.int gok_nil _ (fun x hx => by
      by_cases q : x ∈ b <;> simp [nin', q])]
    simp
    refine to_nm ?_
    simp [hb2]
    rw [lcD_filt D.int (fun x => !decide (x ∈ a)) D.int gok_nil _ (fun x hx => by
      by_cases q : x ∈ a <;> simp [nin', q])]
    simp
    have e1 : flickP [(a, b)] = flick2 a b := by simp [flickP]
    have e2 : flickP pre + ((a.filter fun x => !decide (x ∈ b)).length : Int) + ((b.filter fun x => !decide (x ∈ a)).length : Int) = flickP (pre ++ [(a, b)]) := by
      rw [flickP_app, e1]
      unfold flick2
      omega
    rw [e2]
    exact to_nil ((hJ _ _ _).mpr ⟨_, _, rfl, rfl⟩)
  · intro ρ S' hj
    obtain ⟨x2, x3, rfl, rfl⟩ := (hJ _ _ _).mp hj
    refine to_ret ?_
    simp [flickL]
theorem need_ok {wf n : Nat} {S : Sto} {A : TA} {T : TS} {m : Int} (h : TRep c_Teller S A T) (hm : m ∈ T.ids) : run F wf (n + 1) i_Teller_need [.ref A.i, .int m] S = .ok .non S := by
  refine R.of_To (run_To h_Teller_need rfl (to_ite ?_))
  simp [f_Teller_need, h.ins_of, h.th.in, hm]
  exact to_nil (by simp)
theorem need_exc {wf n : Nat} {S : Sto} {A : TA} {T : TS} {m : Int} (h : TRep c_Teller S A T) (hm : m ∉ T.ids) : run F wf (n + 1) i_Teller_need [.ref A.i, .int m] S = .exc c_NoThing S := by
  rw [run_at h_Teller_need S rfl]
  simp [f_Teller_need, b_Teller_need, xs_cons, x1_ite, x1_raise_, R.thn, RS.seq, callR, h.ins_of, h.th.in, hm]
theorem board_eq (T : TS) : (T.ids.map fun n => dT (T.thing n)) = T.board.map dT := by simp [TS.board, Function.comp_def]
theorem tboard_ok {wf n : Nat} {S : Sto} {A : TA} {T : TS} (h : TRep c_Teller S A T) : run F wf (n + 1) i_Teller_board [.ref A.i] S = .ok (dB T.board) S := by
  have hz := h.ok.few
  have hz2 : T.ids.length ≤ 16777216 := by omega
  have hs := h.th.sorted h.ok.ids hz2
  refine R.of_To (run_To h_Teller_board rfl (to_ret ?_))
  simp [f_Teller_board, h.ins_of, hs, hz2]
  rw [lcD_all D.int (fun n => dT (T.thing n)) gok_nil _ (fun n hn => by
    have e := h.th.idx hn
    simp [h.ins_of, e, dTh, addD, dT, TS.thing])]
  simp [board_eq, dB]
theorem hs_len {T : TS} (h : T.Ok) : T.hs.length ≤ 1000 := by
  have e : T.hs = T.ids.filter fun n => decide (n ∈ T.hs) := h.hs.uniq (h.ids.filter _) fun m => by
    rw [List.mem_filter, decide_eq_true_eq]
    exact ⟨fun z => ⟨h.sub m z, z⟩, fun z => z.2⟩
  rw [e]
  exact Nat.le_trans (List.length_filter_le _ _) h.few
theorem hearers_ok {wf n : Nat} {S : Sto} {A : TA} {T : TS} (h : TRep c_Teller S A T) : run F wf (n + 1) i_Teller_hearers [.ref A.i] S = .ok (iL T.hs) S := by
  have hz := hs_len h.ok
  have hs := h.si.sorted h.ok.hs (by omega)
  refine R.of_To (run_To h_Teller_hearers rfl (to_ret ?_))
  simp [f_Teller_hearers, h.ins_of, hs, iL]
theorem knows_len {T : TS} (h : T.Ok) (x : Int) : (T.knows x).length ≤ 1000 := Nat.le_trans (List.length_filter_le _ _) h.few
theorem knows_ok {wf n : Nat} {S : Sto} {A : TA} {T : TS} {x : Int} (h : TRep c_Teller S A T) (hx : x ∈ T.hs) : run F wf (n + 1) i_Teller_knows [.ref A.i, .int x] S = .ok (iL (T.knows x)) S := by
  have hz := knows_len h.ok x
  have hs := (h.kj x hx).sorted (h.ok.ids.filter _) (by omega)
  refine R.of_To (run_To h_Teller_knows rfl (to_ite ?_))
  simp [f_Teller_knows, h.ins_of, h.si.in, hx]
  refine to_ret ?_
  simp [h.ins_of, h.kn.idx hx, hs, iL]
theorem knows_exc {wf n : Nat} {S : Sto} {A : TA} {T : TS} {x : Int} (h : TRep c_Teller S A T) (hx : x ∉ T.hs) : run F wf (n + 1) i_Teller_knows [.ref A.i, .int x] S = .exc c_NoThing S := by
  rw [run_at h_Teller_knows S rfl]
  simp [f_Teller_knows, b_Teller_knows, xs_cons, x1_ite, x1_raise_, R.thn, RS.seq, callR, h.ins_of, h.si.in, hx]
theorem known_in {S : Sto} {A : TA} {T : TS} {x m : Int} {g : Bool → Bool} (h : TRep c_Teller S A T) (hx : x ∈ T.hs) : inG g S [.int m, .ref (A.j x)] = some (.bl (g (T.kn x m)), S) := by
  rw [(h.kj x hx).in m]
  congr 3
  congr 1
  rw [Bool.eq_iff_iff, decide_eq_true_eq]
  exact mem_knows h.ok
theorem known_by_ok {wf n : Nat} {S : Sto} {A : TA} {T : TS} {m : Int} (h : TRep c_Teller S A T) (hm : m ∈ T.ids) : run F wf (n + 2) i_Teller_known_by [.ref A.i, .int m] S = .ok (iL (T.knownBy m)) S := by
  have hz := hs_len h.ok
  have hz2 : T.hs.length ≤ 16777216 := by omega
  refine R.of_To (run_To h_Teller_known_by rfl (to_exp ?_))
  simp [f_Teller_known_by, h.ins_of, need_ok h hm]
  refine to_ret ?_
  simp [h.ins_of, hearers_ok h, iL, hz2]
  rw [lcD_filt D.int (fun x => T.kn x m) D.int gok_nil _ (fun x hx => by
    by_cases q : T.kn x m = true <;> simp [h.ins_of, h.kn.idx hx, known_in h hx, q])]
  simp [TS.knownBy]
theorem known_by_exc {wf n : Nat} {S : Sto} {A : TA} {T : TS} {m : Int} (h : TRep c_Teller S A T) (hm : m ∉ T.ids) : run F wf (n + 2) i_Teller_known_by [.ref A.i, .int m] S = .exc c_NoThing S := by
  rw [run_at h_Teller_known_by S rfl]
  simp [f_Teller_known_by, b_Teller_known_by, xs_cons, x1_exp, R.thn, RS.seq, callR, h.ins_of, need_exc h hm, R.bind]
theorem joined_ok {wf n : Nat} {S : Sto} {A : TA} {T : TS} {x m : Int} (h : TRep c_Teller S A T) (hx : x ∈ T.ids) (hm : m ∈ T.ids) : run F wf (n + 1) i_Teller_is_joined [.ref A.i, .int x, .int m] S = .ok (.bl (T.joined x m)) S := by
  refine R.of_To (run_To h_Teller_is_joined rfl (to_ret ?_))
  simp [f_Teller_is_joined, h.ins_of, h.th.idx hx, h.th.idx hm, eq_dG, TS.joined]
theorem hear_ok {wf n : Nat} {S : Sto} {A : TA} {T : TS} {x m : Int} (hw : 20 ≤ wf) (h : TRep c_Teller S A T) (hx : x ∈ T.hs) (hm : m ∈ T.ids) : ∃ c1 c2, run F wf (n + 4) i_Teller_can_hear [.ref A.i, .int x, .int m] S = .ok (.bl (T.hears x m)) (S ++ [c1, c2]) := by
  have hi := h.ok.sub x hx
  have hr := (h.ok.th x hi).room
  have hl := doors_len h.ok.doors
  obtain ⟨c1, c2, e⟩ := reach_ok (wf := wf) (n := n) (ds := T.doors) (r := (T.th x).room) (deep := (T.si x).deep) (S := S) h.ok.doors (by omega) hr hw
  have h2 : TRep c_Teller (S ++ [c1, c2]) A T := h.of fun p o => List.getElem?_append_left (h.own_lt o).2
  refine ⟨c1, c2, R.of_To (run_To h_Teller_can_hear rfl (to_nm ?_))⟩
  have hin : ∀ S, inG (fun b => b) S [.int (T.th m).room, .tup (((dl T.doors (T.th x).room).filter fun p => decide (p.2 ≤ (T.si x).deep)).map fun p => .int p.1)] = some (.bl (T.hears x m), S) := fun S => by
    have := in_tup (g := fun b => b) (S := S) (x := (T.th m).room) (ns := reachL T.doors (T.th x).room (T.si x).deep)
    unfold reachL at this
    rw [List.map_map] at this
    exact this
  simp [f_Teller_can_hear, h.ins_of, h.th.idx hi, h.si.idx hx, e]
  refine to_ret ?_
  simp [h2.ins_of, h2.th.idx hm, hin]
theorem fits_ok {wf n : Nat} {S : Sto} {A : TA} {T : TS} {x m : Int} (hw : 20 ≤ wf) (h : TRep c_Teller S A T) (hx : x ∈ T.hs) (hm : m ∈ T.ids) : ∃ M, run F wf (n + 5) i_Teller_fits [.ref A.i, .int x, .int m] S = .ok (.bl (T.fits x m)) (S ++ M) := by
  have hi := h.ok.sub x hx
  have hj : run F wf (n + 4) i_Teller_is_joined [.ref A.i, .int x, .int m] S = .ok (.bl (T.joined x m)) S := joined_ok h hi hm
  obtain ⟨c1, c2, e⟩ := hear_ok (n := n) hw h hx hm
  have h2 : TRep c_Teller (S ++ [c1, c2]) A T := h.of fun p o => List.getElem?_append_left (h.own_lt o).2
  by_cases j : T.joined x m = true
  · refine ⟨[], R.of_To (run_To h_Teller_fits rfl (to_ite ?_))⟩
    simp [f_Teller_fits, h.ins_of, hj, j]
    refine to_ret ?_
    simp [TS.fits, j]
  · have j' : T.joined x m = false := by simpa using j
    refine ⟨[c1, c2], R.of_To (run_To h_Teller_fits rfl (to_ite ?_))⟩
    simp [f_Teller_fits, h.ins_of, hj, j']
    refine to_ite ?_
    simp [h.ins_of, e]
    by_cases k : T.hears x m = true
    · simp [k]
      refine to_asg ?_
      simp [h2.ins_of, h2.si.idx hx]
      refine to_ite ?_
      simp [h2.ins_of, h2.kn.idx hx, known_in h2 hx]
      have fin : ∀ far : Int, (exs (run F wf (n + 4)) wf (.cons (.ret (.cmp .le (.call i_distance (.cons (.idx (.idx (.fld (.var 0) c_Teller "things") (.var 1)) (.lit (.int 0))) (.cons (.idx (.idx (.fld (.var 0) c_Teller "things") (.var 2)) (.lit (.int 0))) .nil))) (.var 3))) .nil) [some (.ref A.i), some (.int x), some (.int m), some (.int far), some (.int (T.si x).slack), some (.int (T.si x).deep)] (S ++ [c1, c2])).To fun f S' => ∃ d, f = .rt d ∧ d = .bl (decide (T.apart x m ≤ far)) ∧ S' = S ++ [c1, c2] := fun far => by
        refine to_ret ?_
        simp [h2.ins_of, h2.th.idx hi, h2.th.idx hm, distance_ok, TS.apart]
        exact decide_eq_decide.mpr Iff.rfl
      refine ⟨fun q => ?_, fun q => ?_⟩
      · refine to_nm ?_
        simp
        refine (fin _).mono fun f S' z => ?_
        obtain ⟨d, rfl, rfl, rfl⟩ := z
        simp [TS.fits, j', k, q]
      · refine (fin _).mono fun f S' z => ?_
        obtain ⟨d, rfl, rfl, rfl⟩ := z
        simp [TS.fits, j', k, q]
    · have k' : T.hears x m = false := by simpa using k
      simp [k']
      refine to_ret ?_
      simp [TS.fits, j', k']
theorem turn_pair_ok {wf n : Nat} {S : Sto} {A : TA} {T : TS} {x m : Int} {b : Bool} (h : TRep c_Teller S A T) (hx : x ∈ T.hs) (hm : m ∈ T.ids) (hne : m ≠ x) (hb : b = false → T.kn x m = true) :
    ∃ c, run F wf (n + 1) i_Teller_turn_pair [.ref A.i, .int x, .int m, .bl b] S = .ok (.str (if b then "met" else "lost")) (S.set (A.j x) c) ∧ TRep c_Teller (S.set (A.j x) c) A (T.put x m b) := by
  have hz := knows_len h.ok x
  have hk := h.kj x hx
  have hku : Up (T.knows x) := h.ok.ids.filter _
  cases b with
  | true =>
    obtain ⟨c, e1, e2⟩ := hk.set (by omega) m (.bl true)
    refine ⟨c, R.of_To (run_To h_Teller_turn_pair rfl (to_ite ?_)), ?_⟩
    · simp [f_Teller_turn_pair]
      refine to_setI ?_
      simp [h.ins_of, h.kn.idx hx, e1]
      refine to_ret ?_
      simp
    · refine h.put hx (fun _ => ⟨hm, hne⟩) ?_
      rw [put_knows_tt h.ok hm]
      refine e2.congr fun k _ => ?_
      unfold updF
      split <;> rfl
  | false =>
    have hin : m ∈ T.knows x := (mem_knows h.ok).mpr (hb rfl)
    obtain ⟨c, e1, _, e2⟩ := hk.pop hin
    refine ⟨c, R.of_To (run_To h_Teller_turn_pair rfl (to_ite ?_)), ?_⟩
    · simp [f_Teller_turn_pair]
      refine to_exp ?_
      simp [h.ins_of, h.kn.idx hx, hk.ok, e1]
      refine to_ret ?_
      simp
    · refine h.put hx (fun z => by cases z) ?_
      rw [put_knows_ff h.ok]
      exact e2
def pairP (hs1 : List Int) (x : Int) (ids1 : List Int) (h n : Int) : Bool := decide (h ∈ hs1) || decide (h = x) && decide (n ∈ ids1)
theorem part_fits {T : TS} {P : Int → Int → Bool} {h n : Int} (q : P h n = false) : (T.part P).fits h n = T.fits h n := by
  have : (T.part P).kn h n = T.kn h n := by simp [TS.part, q]
  unfold TS.fits
  rw [this]
  rfl
theorem part_step {T : TS} {hs1 ids1 : List Int} {x m : Int} (hx : x ∈ T.hs) (hm : m ∈ T.ids) (hne : m ≠ x) : (T.part (pairP hs1 x ids1)).put x m (T.fits x m) = T.part (pairP hs1 x (ids1 ++ [m])) := by
  unfold TS.put TS.part
  congr 1
  funext h n
  by_cases e : h = x ∧ n = m
  · obtain ⟨rfl, rfl⟩ := e
    simp [pairP, hx, hm, hne]
  · rw [if_neg e]
    have : pairP hs1 x ids1 h n = pairP hs1 x (ids1 ++ [m]) h n := by
      unfold pairP
      by_cases e1 : h = x
      · have e2 : n ≠ m := fun z => e ⟨e1, z⟩
        simp [e2]
      · simp [e1]
    show (if pairP hs1 x ids1 h n = true ∧ h ∈ T.hs ∧ n ∈ T.ids ∧ n ≠ h then T.fits h n else T.kn h n) = _
    rw [this]
theorem part_same {T : TS} {P P' : Int → Int → Bool} (h : ∀ x n, x ∈ T.hs → n ∈ T.ids → n ≠ x → P x n ≠ P' x n → T.fits x n = T.kn x n) : T.part P = T.part P' := by
  unfold TS.part
  congr 1
  funext x n
  by_cases a : x ∈ T.hs ∧ n ∈ T.ids ∧ n ≠ x
  · by_cases e : P x n = P' x n
    · rw [e]
    · have := h x n a.1 a.2.1 a.2.2 e
      simp only [this, ite_self]
  · have : ∀ b : Prop, ¬ (b ∧ x ∈ T.hs ∧ n ∈ T.ids ∧ n ≠ x) := fun b z => a z.2
    rw [if_neg (this _), if_neg (this _)]
theorem part_none {T : TS} : T.part (fun _ _ => false) = T := by
  unfold TS.part
  simp
theorem part_all {T : TS} : T.part (fun h n => decide (h ∈ T.hs)) = T.settle := by
  unfold TS.part TS.settle
  congr 1
  funext h n
  congr 1
  rw [eq_iff_iff]
  simp
theorem rows_len (T : TS) (ok : T.Ok) (t : Option Rat) (hs : List Int) (h : hs.length ≤ 1000) : (hs.flatMap (T.rowsOf t)).length ≤ 1000000 := by
  have h1 : ∀ x, (T.rowsOf t x).length ≤ 1000 := fun x => by
    unfold TS.rowsOf
    rw [List.length_map]
    exact Nat.le_trans (List.length_filter_le _ _) ok.few
  have : (hs.flatMap (T.rowsOf t)).length ≤ hs.length * 1000 := by
    clear h
    induction hs with
    | nil => simp
    | cons a hs ih =>
      have := h1 a
      rw [List.flatMap_cons, List.length_append, List.length_cons]
      omega
  omega
theorem settled_ok {wf n : Nat} {S : Sto} {A : TA} {T : TS} {t : Option Rat} (hw : 20 ≤ wf) (h : TRep c_Teller S A T) (h0 : 0 < S.length) : (run F wf (n + 6) i_Teller_settled [.ref A.i, dTm t] S).To fun d S' => d = .tup ((T.rows t).map dRow) ∧ TRep c_Teller S' A T.settle ∧ Fr (own A T) 0 S S' := by
  refine run_To h_Teller_settled rfl (to_nm ?_)
  simp [f_Teller_settled]
  have hz := h.ok.few
  have hz2 := hs_len h.ok
  have h1 : TRep c_Teller (S ++ [.lst []]) A T := h.of fun p o => List.getElem?_append_left (h.own_lt o).2
  have f0 : cellL (S ++ [.lst []]) S.length = some [] := by simp [cellL]
  obtain ⟨f, hf⟩ : ∃ f, f = S.length := ⟨_, rfl⟩
  rw [← hf] at f0 ⊢
  obtain ⟨K, hK⟩ : ∃ K : (Int → Int → Bool) → List TS.Row → Sto → Prop, ∀ P R S', K P R S' ↔ (TRep c_Teller S' A (T.part P) ∧ Fr (own A T) 0 S S' ∧ cellL S' f = some (R.map dRow) ∧ R.length ≤ 2000000) := ⟨_, fun _ _ _ => Iff.rfl⟩
  obtain ⟨J, hJ⟩ : ∃ J : List Int → NT.Env → Sto → Prop, ∀ hs1 ρ S', J hs1 ρ S' ↔ (∃ x3 x4 x5, ρ = [some (.ref A.i), some (dTm t), some (.ref f), x3, x4, x5] ∧ K (fun h n => decide (h ∈ hs1)) (hs1.flatMap (T.rowsOf t)) S') := ⟨_, fun _ _ _ => Iff.rfl⟩
  refine to_forP (g := D.int) (xs := T.hs) (S1 := S ++ [.lst []]) (by simp [h1.ins_of, hearers_ok h1, iL]) J ?_ ?_ ?_
  · refine (hJ _ _ _).mpr ⟨_, _, _, rfl, (hK _ _ _).mpr ⟨?_, (Fr.refl _ S).push _ h0, f0, by simp⟩⟩
    have : (fun (h n : Int) => decide (h ∈ ([] : List Int))) = fun _ _ => false := by funext h n; simp
    rw [this, part_none]
    exact h1
  · intro hs1 x post ρ S1 exs1 hj
    obtain ⟨x3, x4, x5, rfl, hk⟩ := (hJ _ _ _).mp hj
    have hx : x ∈ T.hs := by rw [exs1]; simp
    have hx1 : x ∉ hs1 := by
      have := h.ok.hs.nodup
      rw [exs1, List.nodup_append] at this
      exact fun z => this.2.2 x z x (by simp) rfl
    have hlen : (hs1.flatMap (T.rowsOf t)).length ≤ 1000000 := rows_len T h.ok t hs1 (by
      have := congrArg List.length exs1
      simp at this
      omega)
    refine ⟨_, rfl, ?_⟩
    obtain ⟨J2, hJ2⟩ : ∃ J2 : List Int → NT.Env → Sto → Prop, ∀ ids1 ρ S', J2 ids1 ρ S' ↔ (∃ x4 x5, ρ = [some (.ref A.i), some (dTm t), some (.ref f), some (.int x), x4, x5] ∧ K (pairP hs1 x ids1) (hs1.flatMap (T.rowsOf t) ++ (ids1.filter (T.flip x)).map fun n => (⟨t, T.fits x n, x, n⟩ : TS.Row)) S') := ⟨_, fun _ _ _ => Iff.rfl⟩
    obtain ⟨r1, r2, r3, r4⟩ := (hK _ _ _).mp hk
    have hs := r1.th.sorted r1.ok.ids (by have := r1.ok.few; omega)
    refine to_forP (g := D.int) (xs := T.ids) (S1 := S1) (by simp [r1.ins_of, hs]; rfl) J2 ?_ ?_ ?_
    · refine (hJ2 _ _ _).mpr ⟨_, _, rfl, (hK _ _ _).mpr ⟨?_, r2, by simpa using r3, by rw [List.filter_nil, List.map_nil, List.append_nil]; exact r4⟩⟩
      have : pairP hs1 x [] = fun h n => decide (h ∈ hs1) := by funext h n; simp [pairP]
      rw [this]
      exact r1
    · intro ids1 m post2 ρ S2 exs2 hj2
      obtain ⟨x4, x5, rfl, hk2⟩ := (hJ2 _ _ _).mp hj2
      obtain ⟨q1, q2, q3, q4⟩ := (hK _ _ _).mp hk2
      have hm : m ∈ T.ids := by rw [exs2]; simp
      have hm1 : m ∉ ids1 := by
        have := h.ok.ids.nodup
        rw [exs2, List.nodup_append] at this
        exact fun z => this.2.2 m z m (by simp) rfl
      have hl2 : ((ids1.filter (T.flip x)).map fun n => (⟨t, T.fits x n, x, n⟩ : TS.Row)).length ≤ 1000 := by
        rw [List.length_map]
        refine Nat.le_trans (List.length_filter_le _ _) ?_
        have := congrArg List.length exs2
        simp at this
        omega
      have hP : pairP hs1 x ids1 x m = false := by simp [pairP, hx1, hm1]
      have hfit : (T.part (pairP hs1 x ids1)).fits x m = T.fits x m := part_fits hP
      have hkn : (T.part (pairP hs1 x ids1)).kn x m = T.kn x m := by simp [TS.part, hP]
      have skip : T.flip x m = false → K (pairP hs1 x (ids1 ++ [m])) (hs1.flatMap (T.rowsOf t) ++ ((ids1 ++ [m]).filter (T.flip x)).map fun n => (⟨t, T.fits x n, x, n⟩ : TS.Row)) S2 := fun hfl => by
        rw [List.filter_append, List.filter_cons, hfl]
        simp only [Bool.false_eq_true, if_false, List.filter_nil, List.append_nil]
        have : T.part (pairP hs1 x (ids1 ++ [m])) = T.part (pairP hs1 x ids1) := part_same fun h n _ _ hne hd => by
          unfold pairP at hd
          by_cases e1 : h = x
          · subst e1
            by_cases e2 : n = m
            · subst e2
              simpa [TS.flip, hne] using hfl
            · simp [e2] at hd
          · simp [e1] at hd
        exact (hK _ _ _).mpr ⟨by rw [this]; exact q1, q2, q3, q4⟩
      refine ⟨_, rfl, to_ite ?_⟩
      simp
      refine ⟨fun hne => ?_, fun hne => ?_⟩
      · obtain ⟨M, ef⟩ := fits_ok (wf := wf) (n := n) hw q1 hx hm
        rw [hfit] at ef
        refine to_nm ?_
        simp [q1.ins_of, q1.kn.idx hx, known_in q1 hx, hkn]
        refine to_ite ?_
        simp [q1.ins_of, ef, neD_bl]
        have q1' : TRep c_Teller (S2 ++ M) A (T.part (pairP hs1 x ids1)) := q1.of fun p o => List.getElem?_append_left (q1.own_lt o).2
        have hfl2 := (q1.own_lt (.inl rfl)).2
        have q2' : Fr (own A T) 0 S (S2 ++ M) := q2.app M h0
        have q3' : cellL (S2 ++ M) f = some ((hs1.flatMap (T.rowsOf t) ++ (ids1.filter (T.flip x)).map fun n => (⟨t, T.fits x n, x, n⟩ : TS.Row)).map dRow) := by
          have := cell_lt q3
          unfold cellL at q3 ⊢
          rw [List.getElem?_append_left this]
          exact q3
        refine ⟨fun hfk => ?_, fun hfk => ?_⟩
        · have hb : (!T.kn x m) = T.fits x m := by
            revert hfk
            cases T.fits x m <;> cases T.kn x m <;> simp
          obtain ⟨c, e1, e2⟩ := turn_pair_ok (wf := wf) (n := n + 4) (b := T.fits x m) q1' hx hm hne (fun z => by
            rw [hkn]
            rw [z] at hb
            simpa using hb)
          rw [part_step hx hm hne] at e2
          refine to_exp ?_
          have hjf : f ≠ A.j x := by
            have := (h.kj x hx).lt
            omega
          have q3'' : cellL ((S2 ++ M).set (A.j x) c) f = some ((hs1.flatMap (T.rowsOf t) ++ (ids1.filter (T.flip x)).map fun n => (⟨t, T.fits x n, x, n⟩ : TS.Row)).map dRow) := by
            unfold cellL at q3' ⊢
            rw [List.getElem?_set_ne (Ne.symm hjf)]
            exact q3'
          have hfl : T.flip x m = true := by
            unfold TS.flip
            rw [decide_eq_true hne, Bool.true_and]
            simpa using hfk
          have hlz : (hs1.flatMap (T.rowsOf t) ++ (ids1.filter (T.flip x)).map fun n => (⟨t, T.fits x n, x, n⟩ : TS.Row)).length < 16777216 := by
            rw [List.length_append]
            omega
          have hap : appendD ((S2 ++ M).set (A.j x) c) [.ref f, .tup [dTm t, .str (if T.fits x m then "met" else "lost"), .int x, .int m]] = some (.non, ((S2 ++ M).set (A.j x) c).set f (.lst ((hs1.flatMap (T.rowsOf t) ++ (ids1.filter (T.flip x)).map fun n => (⟨t, T.fits x n, x, n⟩ : TS.Row)).map dRow ++ [.tup [dTm t, .str (if T.fits x m then "met" else "lost"), .int x, .int m]]))) := by
            unfold appendD
            simp only [q3'']
            rw [if_pos (by rw [List.length_map]; simpa using hlz)]
          simp only [e1_mth, plain1, e1_var, List.getElem?_cons_succ, List.getElem?_cons_zero, rbind_ok, Mth.ok, q3', Option.isSome_some, if_true, es_cons, es_nil, e1_tup, e1_meth, q1'.ins_of, look_turn_pair, Option.isNone_none, e1_not]
          simp [hb, e1, hap]
          refine to_nil ((hJ2 _ _ _).mpr ⟨_, _, rfl, (hK _ _ _).mpr ⟨?_, ?_, ?_, ?_⟩⟩)
          · exact e2.of fun p o => List.getElem?_set_ne (by
              have := (h.own_lt (T := T) (by exact o)).2
              omega)
          · exact (q2'.set _ (.inl (.inr (.inr (.inr (.inr ⟨x, hx, rfl⟩))))) (by have := h.ad.j x hx; omega)).set _ (.inr (by omega)) (by omega)
          · rw [cell_set (by have := cell_lt q3''; exact this)]
            rw [List.filter_append, List.filter_cons, hfl]
            simp [dRow]
          · rw [List.length_append, List.length_map]
            have z1 := List.length_filter_le (T.flip x) (ids1 ++ [m])
            have z2 : (ids1 ++ [m]).length ≤ 1000 := by
              have := congrArg List.length exs2
              simp at this ⊢
              omega
            omega
        · have hfl : T.flip x m = false := by
            unfold TS.flip
            rw [decide_eq_true hne, Bool.true_and]
            simpa using hfk
          refine to_nil ((hJ2 _ _ _).mpr ⟨_, _, rfl, ?_⟩)
          obtain ⟨z1, z2, z3, z4⟩ := (hK _ _ _).mp (skip hfl)
          refine (hK _ _ _).mpr ⟨z1.of fun p o => List.getElem?_append_left (z1.own_lt o).2, q2', ?_, z4⟩
          have := cell_lt z3
          unfold cellL at z3 ⊢
          rw [List.getElem?_append_left this]
          exact z3
      · refine to_nil ((hJ2 _ _ _).mpr ⟨_, _, rfl, skip ?_⟩)
        simp [TS.flip, hne]
    · intro ρ S2 hj2
      obtain ⟨x4, x5, rfl, hk2⟩ := (hJ2 _ _ _).mp hj2
      obtain ⟨q1, q2, q3, q4⟩ := (hK _ _ _).mp hk2
      refine to_nil ((hJ _ _ _).mpr ⟨_, _, _, rfl, (hK _ _ _).mpr ⟨?_, q2, ?_, ?_⟩⟩)
      · have : T.part (pairP hs1 x T.ids) = T.part (fun h n => decide (h ∈ hs1 ++ [x])) := part_same fun h n _ hn hne hd => by
          exfalso
          apply hd
          unfold pairP
          by_cases e1 : h ∈ hs1 <;> by_cases e2 : h = x <;> simp [e1, e2, hn]
        rw [← this]
        exact q1
      · rw [List.flatMap_append, List.flatMap_cons, List.flatMap_nil, List.append_nil]
        exact q3
      · rw [List.flatMap_append, List.flatMap_cons, List.flatMap_nil, List.append_nil]
        exact q4
  · intro ρ S1 hj
    obtain ⟨x3, x4, x5, rfl, hk⟩ := (hJ _ _ _).mp hj
    obtain ⟨q1, q2, q3, q4⟩ := (hK _ _ _).mp hk
    rw [part_all] at q1
    refine to_ret ?_
    have ht : tupleD S1 [.ref f] = some (.tup ((T.hs.flatMap (T.rowsOf t)).map dRow), S1) := by
      simp [tupleD, asSeq_ref q3]
    simp [ht]
    exact ⟨rfl, q1, q2⟩
/-- a deed done: the teller stands as T' -/
def Act (A : TA) (T T' : TS) (S S' : Sto) : Prop := ∃ A' : TA, A'.i = A.i ∧ TRep c_Teller S' A' T' ∧ Fr (own A T) 0 S S' ∧ ∀ p, own A' T' p → own A T p ∨ S.length ≤ p
theorem TRep.setA {S : Sto} {A : TA} {T : TS} (r : TRep c_Teller S A T) {x : Cell} {ids : List Int} {th : Int → Th} (d : DK (S.set A.a x) A.a ids fun n => dTh (th n)) (ok : ({ T with ids := ids, th := th } : TS).Ok) : TRep c_Teller (S.set A.a x) A { T with ids := ids, th := th } := by
  obtain ⟨e1, e2, e3, e4, e5, e6⟩ := r.ad.ne
  have ne : ∀ {p}, A.a ≠ p → (S.set A.a x)[p]? = S[p]? := fun {p} z => List.getElem?_set_ne z
  refine ⟨(ne (Ne.symm e1)).trans r.ins, d, r.si.of (ne e4), r.kn.of (ne e5), fun y hy => ?_, ok, r.ad⟩
  have : ({ T with ids := ids, th := th } : TS).knows y = T.knows y := by
    refine (ok.ids.filter _).uniq (r.ok.ids.filter _) fun m => ?_
    rw [mem_knows r.ok]
    exact mem_knows ok
  rw [this]
  exact (r.kj y hy).of (ne (by have := r.ad.j y hy; omega))
theorem Act.settle {A : TA} {T T1 : TS} {S S1 S2 : Sto} (a : Act A T T1 S S1) {A1 : TA} (h0 : 0 < S.length) (h : ∀ A1, A1.i = A.i → TRep c_Teller S1 A1 T1 → 0 < S1.length → TRep c_Teller S2 A1 T1.settle ∧ Fr (own A1 T1) 0 S1 S2) : Act A T T1.settle S S2 := by
  obtain ⟨A', e, r, f, o⟩ := a
  obtain ⟨r2, f2⟩ := h A' e r (f.pos h0)
  exact ⟨A', e, r2, (f.trans f2 fun i q hi => (o i q).resolve_right (by omega)).mono (by omega), o⟩
@[simp] theorem cst_tup {is : List Int} : (Cst.tup is).d = .wt (is.map D.int) := rfl
def TS.comeS (T : TS) (n : Int) (t : Th) : TS := { T with ids := addS n T.ids, th := updF T.th n t }
theorem comeS_ok {T : TS} (ok : T.Ok) {n : Int} {t : Th} (ht : t.Ok) (hl : (addS n T.ids).length ≤ 1000) : (TS.comeS T n t).Ok :=
  ⟨ok.doors, ok.ids.add, ok.hs, fun h hh => mem_addS.mpr (.inr (ok.sub h hh)), fun m hm => by
    show (updF T.th n t m).Ok
    by_cases e : m = n
    · subst e
      rw [updF_self]
      exact ht
    · rw [updF_ne e]
      exact ok.th m ((mem_addS.mp hm).resolve_left e), ok.si, fun h m z => ⟨(ok.kn h m z).1, mem_addS.mpr (.inr (ok.kn h m z).2.1), (ok.kn h m z).2.2⟩, hl⟩
theorem updF_dTh {th : Int → Th} {n : Int} {t : Th} : updF (fun m => dTh (th m)) n (dTh t) = fun m => dTh (updF th n t m) := by
  funext m
  unfold updF
  split <;> rfl
/-- the last row of many deeds -/
theorem settle_tail {wf n : Nat} {S S1 : Sto} {A : TA} {T T1 : TS} (hw : 20 ≤ wf) (h0 : 0 < S.length) (a : Act A T T1 S S1) : (run F wf (n + 6) i_Teller_settled [.ref A.i, .wt [.int 0, .int 1]] S1).To fun d S' => d = .tup ((T1.rows none).map dRow) ∧ Act A T T1.settle S S' := by
  obtain ⟨A', e, r, f, o⟩ := a
  have hs := settled_ok (wf := wf) (n := n) (t := none) hw r (f.pos h0)
  rw [e] at hs
  exact hs.mono fun d S' ⟨z1, z2, z3⟩ => ⟨z1, A', e, z2, (f.trans z3 fun i q hi => (o i q).resolve_right (by omega)).mono (by omega), o⟩
theorem come_exc {wf n : Nat} {S : Sto} {A : TA} {T : TS} {m : Int} {x y z : D} (h : TRep c_Teller S A T) (hm : m ∈ T.ids) : run F wf (n + 1) i_Teller_come [.ref A.i, .int m, x, y, z] S = .exc c_BadMove S := by
  rw [run_at h_Teller_come S rfl]
  simp [f_Teller_come, b_Teller_come, xs_cons, x1_ite, x1_raise_, R.thn, RS.seq, callR, h.ins_of, h.th.in, hm]
theorem come_ok {wf n : Nat} {S : Sto} {A : TA} {T : TS} {m : Int} {t : Th} (hw : 20 ≤ wf) (h : TRep c_Teller S A T) (h0 : 0 < S.length) (hm : m ∉ T.ids) (ht : t.Ok) (hl : T.ids.length < 1000) :
    (run F wf (n + 7) i_Teller_come [.ref A.i, .int m, dP t.p, .int t.room, dG t.g] S).To fun d S' => d = .tup (((TS.comeS T m t).rows none).map dRow) ∧ Act A T (TS.comeS T m t).settle S S' := by
  obtain ⟨c, e1, e2⟩ := h.th.set (by omega) m (dTh t)
  rw [updF_dTh] at e2
  have r1 := TRep.setA h e2 (comeS_ok h.ok ht (Nat.le_trans addS_len hl))
  have a1 : Act A T (TS.comeS T m t) S (S.set A.a c) := ⟨A, rfl, r1, Fr.none_set c (.inr (.inl rfl)) (by have := h.ad.nz; omega), fun p o => .inl o⟩
  obtain ⟨d, S', e3, e4⟩ := settle_tail (n := n) hw h0 a1
  refine run_To h_Teller_come rfl (to_ite ?_)
  simp [f_Teller_come, h.ins_of, h.th.in, hm]
  refine to_setI ?_
  simp [dTh] at e1
  simp [h.ins_of, e1]
  refine to_ret ?_
  simp [r1.ins_of, e3]
  exact e4
def TS.thS (T : TS) (n : Int) (t : Th) : TS := { T with th := updF T.th n t }
theorem thS_ok {T : TS} (ok : T.Ok) {n : Int} {t : Th} (ht : t.Ok) : (TS.thS T n t).Ok :=
  ⟨ok.doors, ok.ids, ok.hs, ok.sub, fun m hm => by
    show (updF T.th n t m).Ok
    by_cases e : m = n
    · subst e
      rw [updF_self]
      exact ht
    · rw [updF_ne e]
      exact ok.th m hm, ok.si, ok.kn, ok.few⟩
theorem thS_act {S : Sto} {A : TA} {T : TS} {m : Int} {t : Th} (h : TRep c_Teller S A T) (hm : m ∈ T.ids) (ht : t.Ok) : ∃ c, setS S (.ref A.a) (.int m) (dTh t) = some (S.set A.a c) ∧ TRep c_Teller (S.set A.a c) A (TS.thS T m t) ∧ Act A T (TS.thS T m t) S (S.set A.a c) := by
  have hl := h.ok.few
  obtain ⟨c, e1, e2⟩ := h.th.set (by omega) m (dTh t)
  rw [updF_dTh, addS_in hm] at e2
  have r1 := TRep.setA h e2 (thS_ok h.ok ht)
  exact ⟨c, e1, r1, A, rfl, r1, Fr.none_set c (.inr (.inl rfl)) (by have := h.ad.nz; omega), fun p o => .inl o⟩
theorem room_exc {wf n : Nat} {S : Sto} {A : TA} {T : TS} {m : Int} {x : D} (h : TRep c_Teller S A T) (hm : m ∉ T.ids) : run F wf (n + 2) i_Teller_room [.ref A.i, .int m, x] S = .exc c_NoThing S := by
  rw [run_at h_Teller_room S rfl]
  simp [f_Teller_room, b_Teller_room, xs_cons, x1_exp, R.thn, RS.seq, callR, h.ins_of, need_exc h hm, R.bind]
theorem room_ok {wf n : Nat} {S : Sto} {A : TA} {T : TS} {m r : Int} (hw : 20 ≤ wf) (h : TRep c_Teller S A T) (h0 : 0 < S.length) (hm : m ∈ T.ids) (hr : 0 ≤ r ∧ r ≤ 9) :
    (run F wf (n + 7) i_Teller_room [.ref A.i, .int m, .int r] S).To fun d S' => d = .tup (((TS.thS T m { T.th m with room := r }).rows none).map dRow) ∧ Act A T (TS.thS T m { T.th m with room := r }).settle S S' := by
  obtain ⟨c, e1, r1, a1⟩ := thS_act (t := { T.th m with room := r }) h hm ⟨(h.ok.th m hm).p, hr⟩
  obtain ⟨d, S', e3, e4⟩ := settle_tail (n := n) hw h0 a1
  refine run_To h_Teller_room rfl (to_exp ?_)
  simp [f_Teller_room, h.ins_of, need_ok h hm]
  refine to_asg ?_
  simp [h.ins_of, h.th.idx hm]
  refine to_setI ?_
  simp [dTh] at e1
  simp [h.ins_of, e1]
  refine to_ret ?_
  simp [r1.ins_of, e3]
  exact e4
theorem group_exc {wf n : Nat} {S : Sto} {A : TA} {T : TS} {m : Int} {x : D} (h : TRep c_Teller S A T) (hm : m ∉ T.ids) : run F wf (n + 2) i_Teller_group [.ref A.i, .int m, x] S = .exc c_NoThing S := by
  rw [run_at h_Teller_group S rfl]
  simp [f_Teller_group, b_Teller_group, xs_cons, x1_exp, R.thn, RS.seq, callR, h.ins_of, need_exc h hm, R.bind]
theorem group_ok {wf n : Nat} {S : Sto} {A : TA} {T : TS} {m : Int} {g : Option Int} (hw : 20 ≤ wf) (h : TRep c_Teller S A T) (h0 : 0 < S.length) (hm : m ∈ T.ids) :
    (run F wf (n + 7) i_Teller_group [.ref A.i, .int m, dG g] S).To fun d S' => d = .tup (((TS.thS T m { T.th m with g := g }).rows none).map dRow) ∧ Act A T (TS.thS T m { T.th m with g := g }).settle S S' := by
  obtain ⟨c, e1, r1, a1⟩ := thS_act (t := { T.th m with g := g }) h hm ⟨(h.ok.th m hm).p, (h.ok.th m hm).room⟩
  obtain ⟨d, S', e3, e4⟩ := settle_tail (n := n) hw h0 a1
  refine run_To h_Teller_group rfl (to_exp ?_)
  simp [f_Teller_group, h.ins_of, need_ok h hm]
  refine to_asg ?_
  simp [h.ins_of, h.th.idx hm]
  refine to_setI ?_
  simp [dTh] at e1
  simp [h.ins_of, e1]
  refine to_ret ?_
  simp [r1.ins_of, e3]
  exact e4
theorem TRep.setD {S : Sto} {A : TA} {T : TS} (r : TRep c_Teller S A T) {ds : Doors} (ok : DOk ds) : TRep c_Teller (S.set A.i (.ins c_Teller (tfs { T with doors := ds } A))) A { T with doors := ds } := by
  obtain ⟨e1, e2, e3, e4, e5, e6⟩ := r.ad.ne
  have ne : ∀ {p x}, A.i ≠ p → (S.set A.i x)[p]? = S[p]? := fun {p x} z => List.getElem?_set_ne z
  exact ⟨set_at r.ins, r.th.of (ne e1), r.si.of (ne e2), r.kn.of (ne e3), fun y hy => (r.kj y hy).of (ne (by have := r.ad.j y hy; omega)), ⟨ok, r.ok.ids, r.ok.hs, r.ok.sub, r.ok.th, r.ok.si, r.ok.kn, r.ok.few⟩, r.ad⟩
theorem put_doors {T : TS} {A : TA} {ds : Doors} : putFD "doors" (.tup (ds.map pr)) (tfs T A) = tfs { T with doors := ds } A := rfl
def shutL (ds : Doors) (a b : Int) : Doors := ds.filter fun p => !decide (p = (min a b, max a b))
def openL (ds : Doors) (a b : Int) : Doors := sset (ds ++ [(min a b, max a b)])
theorem setF_tail {wf n : Nat} {S : Sto} {A : TA} {T : TS} {ds : Doors} (hw : 20 ≤ wf) (h : TRep c_Teller S A T) (h0 : 0 < S.length) (ok : DOk ds) : (run F wf (n + 6) i_Teller_settled [.ref A.i, .wt [.int 0, .int 1]] (S.set A.i (.ins c_Teller (tfs { T with doors := ds } A)))).To fun d S' => d = .tup ((({ T with doors := ds } : TS).rows none).map dRow) ∧ Act A T ({ T with doors := ds } : TS).settle S S' :=
  settle_tail (n := n) hw h0 ⟨A, rfl, TRep.setD h ok, Fr.none_set _ (.inl rfl) (by have := h.ad.nz; omega), fun p o => .inl o⟩
theorem door_exc1 {wf n : Nat} {S : Sto} {A : TA} {T : TS} {a : Int} (h : TRep c_Teller S A T) : run F wf (n + 2) i_Teller_door [.ref A.i, .int a, .int a, .bl true] S = .exc c_NoRoom S := by
  rw [run_at h_Teller_door S rfl]
  simp [f_Teller_door, b_Teller_door, xs_cons, x1_ite, x1_setF, R.thn, RS.seq, callR, h.ins_of, opened_exc, R.bind]
theorem door_exc2 {wf n : Nat} {S : Sto} {A : TA} {T : TS} {a b : Int} (h : TRep c_Teller S A T) (hd : (min a b, max a b) ∉ T.doors) : run F wf (n + 2) i_Teller_door [.ref A.i, .int a, .int b, .bl false] S = .exc c_NoRoom S := by
  rw [run_at h_Teller_door S rfl]
  simp [f_Teller_door, b_Teller_door, xs_cons, x1_ite, x1_setF, R.thn, RS.seq, callR, h.ins_of, shut_exc hd, R.bind]
theorem door_ok1 {wf n : Nat} {S : Sto} {A : TA} {T : TS} {a b : Int} (hw : 20 ≤ wf) (h : TRep c_Teller S A T) (h0 : 0 < S.length) (hab : a ≠ b) (ha : 0 ≤ a ∧ a ≤ 9) (hb : 0 ≤ b ∧ b ≤ 9) :
    (run F wf (n + 7) i_Teller_door [.ref A.i, .int a, .int b, .bl true] S).To fun d S' => d = .tup ((({ T with doors := openL T.doors a b } : TS).rows none).map dRow) ∧ Act A T ({ T with doors := openL T.doors a b } : TS).settle S S' := by
  have hl := doors_len h.ok.doors
  have ok := DOk.opened h.ok.doors hab ha hb
  obtain ⟨d, S', e3, e4⟩ := setF_tail (n := n) hw h h0 ok
  have eo : run F wf (n + 6) i_opened [.tup (T.doors.map pr), .int a, .int b] S = .ok (.tup ((openL T.doors a b).map pr)) S := opened_ok (wf := wf) (n := n + 5) (ds := T.doors) (a := a) (b := b) (S := S) (by omega) hab (by omega) (by omega) (fun p hp => by have := h.ok.doors.bd p hp; omega)
  have r1 : TRep c_Teller _ A { T with doors := openL T.doors a b } := TRep.setD h ok
  have hf : (tfs T A).length < 1000 := by simp [tfs]
  refine run_To h_Teller_door rfl (to_ite ?_)
  simp [f_Teller_door]
  refine (tx_setF (Xc := fun _ _ => False) ?_).to
  simp [h.ins_of, eo]
  refine ⟨_, _, ⟨rfl, rfl⟩, hf, ?_⟩
  rw [put_doors]
  refine (to_ret ?_).tx
  simp [r1.ins_of]
  exact ⟨d, S', e3, e4⟩
theorem door_ok2 {wf n : Nat} {S : Sto} {A : TA} {T : TS} {a b : Int} (hw : 20 ≤ wf) (h : TRep c_Teller S A T) (h0 : 0 < S.length) (hd : (min a b, max a b) ∈ T.doors) :
    (run F wf (n + 7) i_Teller_door [.ref A.i, .int a, .int b, .bl false] S).To fun d S' => d = .tup ((({ T with doors := shutL T.doors a b } : TS).rows none).map dRow) ∧ Act A T ({ T with doors := shutL T.doors a b } : TS).settle S S' := by
  have hl := doors_len h.ok.doors
  have ok := DOk.shut h.ok.doors (min a b, max a b)
  obtain ⟨d, S', e3, e4⟩ := setF_tail (n := n) hw h h0 ok
  have eo : run F wf (n + 6) i_shut [.tup (T.doors.map pr), .int a, .int b] S = .ok (.tup ((shutL T.doors a b).map pr)) S := shut_ok (wf := wf) (n := n + 5) (ds := T.doors) (a := a) (b := b) (S := S) (by omega) hd
  have r1 : TRep c_Teller _ A { T with doors := shutL T.doors a b } := TRep.setD h ok
  have hf : (tfs T A).length < 1000 := by simp [tfs]
  refine run_To h_Teller_door rfl (to_ite ?_)
  simp [f_Teller_door]
  refine (tx_setF (Xc := fun _ _ => False) ?_).to
  simp [h.ins_of, eo]
  refine ⟨_, _, ⟨rfl, rfl⟩, hf, ?_⟩
  rw [put_doors]
  refine (to_ret ?_).tx
  simp [r1.ins_of]
  exact ⟨d, S', e3, e4⟩
def TS.listenS (T : TS) (n : Int) (s : Si) : TS := { T with hs := addS n T.hs, si := updF T.si n s }
theorem listenS_ok {T : TS} (ok : T.Ok) {n : Int} {s : Si} (hn : n ∈ T.ids) (hs : s.Ok) : (TS.listenS T n s).Ok :=
  ⟨ok.doors, ok.ids, ok.hs.add, fun h hh => (mem_addS.mp hh).elim (fun e => by rw [e]; exact hn) (ok.sub h), ok.th, fun m hm => by
    show (updF T.si n s m).Ok
    by_cases e : m = n
    · subst e
      rw [updF_self]
      exact hs
    · rw [updF_ne e]
      exact ok.si m ((mem_addS.mp hm).resolve_left e), fun h m z => ⟨mem_addS.mpr (.inr (ok.kn h m z).1), (ok.kn h m z).2⟩, ok.few⟩
theorem updF_dSi {si : Int → Si} {n : Int} {t : Si} : updF (fun m => dSi (si m)) n (dSi t) = fun m => dSi (updF si n t m) := by
  funext m
  unfold updF
  split <;> rfl
theorem listen_exc {wf n : Nat} {S : Sto} {A : TA} {T : TS} {m : Int} {x : D} (h : TRep c_Teller S A T) (hm : m ∉ T.ids) : run F wf (n + 2) i_Teller_listen [.ref A.i, .int m, x] S = .exc c_NoThing S := by
  rw [run_at h_Teller_listen S rfl]
  simp [f_Teller_listen, b_Teller_listen, xs_cons, x1_exp, R.thn, RS.seq, callR, h.ins_of, need_exc h hm, R.bind]
theorem listen_ok {wf n : Nat} {S : Sto} {A : TA} {T : TS} {m : Int} {s : Si} (hw : 20 ≤ wf) (h : TRep c_Teller S A T) (h0 : 0 < S.length) (hm : m ∈ T.ids) (hs : s.Ok) :
    (run F wf (n + 7) i_Teller_listen [.ref A.i, .int m, dSi s] S).To fun d S' => d = .tup (((TS.listenS T m s).rows none).map dRow) ∧ Act A T (TS.listenS T m s).settle S S' := by
  have hz := hs_len h.ok
  obtain ⟨b1, b2, b3, b4⟩ := h.ad.nz
  obtain ⟨e1, e2, e3, e4, e5, e6⟩ := h.ad.ne
  obtain ⟨c, es, d1⟩ := h.si.set (by omega) m (dSi s)
  rw [updF_dSi] at d1
  have hok := listenS_ok h.ok hm hs
  have lk := h.kn.lt
  have ni : ∀ {p c0}, p ≠ A.b → p < S.length → (S.set A.b c ++ [c0])[p]? = S[p]? := fun {p c0} hp hl => by
    rw [List.getElem?_append_left (by simpa using hl), List.getElem?_set_ne (Ne.symm hp)]
  have d1' : DK (S.set A.b c ++ [.dK []]) A.b (addS m T.hs) (fun n => dSi (updF T.si m s n)) := d1.of (List.getElem?_append_left d1.lt)
  have kn2 : DK (S.set A.b c ++ [.dK []]) A.k T.hs (fun n => .ref (A.j n)) := h.kn.of (ni (Ne.symm e6) lk)
  have fr2 : Fr (own A T) 0 S (S.set A.b c ++ [.dK []]) := (Fr.none_set c (.inr (.inr (.inl rfl))) (by omega)).push _ h0
  -- the rest, from a state that is right
  have rest : ∀ S3, setdefD (S.set A.b c ++ [.dK []]) [.ref A.k, .int m, .ref (S.set A.b c).length] = some (D.non, S3) ∨ (∃ d, setdefD (S.set A.b c ++ [.dK []]) [.ref A.k, .int m, .ref (S.set A.b c).length] = some (d, S3)) → Act A T (TS.listenS T m s) S S3 → insOf S3 c_Teller (.ref A.i) = some (A.i, tfs T A) →
      (run F wf (n + 7) i_Teller_listen [.ref A.i, .int m, dSi s] S).To fun d S' => d = .tup (((TS.listenS T m s).rows none).map dRow) ∧ Act A T (TS.listenS T m s).settle S S' := by
    intro S3 hsd a1 hi
    obtain ⟨d, hsd⟩ : ∃ d, setdefD (S.set A.b c ++ [.dK []]) [.ref A.k, .int m, .ref (S.set A.b c).length] = some (d, S3) := hsd.elim (fun z => ⟨_, z⟩) id
    obtain ⟨d2, S', e3', e4'⟩ := settle_tail (n := n) hw h0 a1
    have hib : insOf (S.set A.b c) c_Teller (.ref A.i) = some (A.i, tfs T A) := insOf_at (by rw [List.getElem?_set_ne (Ne.symm e2)]; exact h.ins)
    have hkb : Mth.ok .setdef (S.set A.b c) (.ref A.k) = true := (h.kn.of (List.getElem?_set_ne e6) : DK (S.set A.b c) A.k T.hs _).ok.2.2
    refine run_To h_Teller_listen rfl (to_exp ?_)
    simp [f_Teller_listen, h.ins_of, need_ok h hm]
    refine to_setI ?_
    simp [h.ins_of, es]
    refine to_exp ?_
    have hsd' : setdefD (S.set A.b c ++ [.dK []]) [.ref A.k, .int m, .ref S.length] = some (d, S3) := by simpa using hsd
    simp [hib, hkb, hsd']
    refine to_ret ?_
    simp [hi]
    exact ⟨d2, S', e3', e4'⟩
  by_cases hin : m ∈ T.hs
  · have hsd := kn2.setdef_in (by omega) hin (.ref (S.set A.b c).length)
    have r2 : TRep c_Teller (S.set A.b c ++ [.dK []]) A (TS.listenS T m s) := by
      refine ⟨(ni e2 (List.getElem?_eq_some_iff.mp h.ins).1).trans h.ins, h.th.of (ni e4 h.th.lt), d1', ?_, fun y hy => ?_, hok, ?_⟩
      · show DK _ _ (addS m T.hs) _
        rw [addS_in hin]
        exact kn2
      · have hy' : y ∈ T.hs := by
          have : y ∈ addS m T.hs := hy
          rwa [addS_in hin] at this
        exact (h.kj y hy').of (ni (by have := h.ad.j y hy'; omega) (h.kj y hy').lt)
      · show A.Ok (addS m T.hs)
        rw [addS_in hin]
        exact h.ad
    refine rest _ (.inr ⟨_, hsd⟩) ⟨A, rfl, r2, fr2, fun p o => ?_⟩ (insOf_at r2.ins)
    rcases o with o | o | o | o | ⟨y, hy, o⟩
    · exact .inl (.inl o)
    · exact .inl (.inr (.inl o))
    · exact .inl (.inr (.inr (.inl o)))
    · exact .inl (.inr (.inr (.inr (.inl o))))
    · refine .inl (.inr (.inr (.inr (.inr ⟨y, ?_, o⟩))))
      have : y ∈ addS m T.hs := hy
      rwa [addS_in hin] at this
  · obtain ⟨c2, hsd, d2⟩ := kn2.setdef_new (by omega) hin (.ref (S.set A.b c).length)
    have ni2 : ∀ {p c0}, p ≠ A.b → p ≠ A.k → p < S.length → ((S.set A.b c ++ [c0]).set A.k c2)[p]? = S[p]? := fun {p c0} hp hk hl => by
      rw [List.getElem?_set_ne (Ne.symm hk)]
      exact ni hp hl
    have hlen : (S.set A.b c).length = S.length := by simp
    rw [hlen] at hsd d2
    have r3 : TRep c_Teller ((S.set A.b c ++ [Cell.dK []]).set A.k c2) { A with j := updF A.j m S.length } (TS.listenS T m s) := by
      refine ⟨(ni2 e2 e3 (List.getElem?_eq_some_iff.mp h.ins).1).trans h.ins, h.th.of (ni2 e4 e5 h.th.lt), d1'.of (List.getElem?_set_ne (Ne.symm e6)), d2.congr fun y hy => ?_, fun y hy => ?_, hok, ?_⟩
      · show updF _ _ _ y = D.ref (updF A.j m S.length y)
        unfold updF
        split <;> rfl
      · by_cases e : y = m
        · subst e
          have he : (TS.listenS T y s).knows y = [] := by
            unfold TS.knows
            rw [List.filter_eq_nil_iff]
            intro k _ z
            exact hin (h.ok.kn y k z).1
          rw [he]
          show DK _ (updF A.j y S.length y) [] _
          rw [updF_self]
          refine ⟨[], ?_, .nil⟩
          rw [List.getElem?_set_ne (by omega)]
          have : (S.set A.b c ++ [Cell.dK []])[S.length]? = some (Cell.dK []) := by
            rw [← hlen]
            simp
          rw [this]
          rfl
        · have hy' : y ∈ T.hs := (mem_addS.mp hy).resolve_left e
          show DK _ (updF A.j m S.length y) _ _
          rw [updF_ne e]
          have hj := h.ad.j y hy'
          exact (h.kj y hy').of (ni2 (by omega) (by omega) (h.kj y hy').lt)
      · have li := (List.getElem?_eq_some_iff.mp h.ins).1
        have la := h.th.lt
        have lb := h.si.lt
        have hj : ∀ y ∈ addS m T.hs, y ≠ m → y ∈ T.hs := fun y hy e => (mem_addS.mp hy).resolve_left e
        refine ⟨h.ad.nz, h.ad.ne, fun y hy => ?_, fun y hy y' hy' e => ?_⟩
        · show 0 < updF A.j m S.length y ∧ updF A.j m S.length y ≠ A.i ∧ updF A.j m S.length y ≠ A.a ∧ updF A.j m S.length y ≠ A.b ∧ updF A.j m S.length y ≠ A.k
          by_cases e : y = m
          · subst e
            rw [updF_self]
            omega
          · rw [updF_ne e]
            exact h.ad.j y (hj y hy e)
        · replace e : updF A.j m S.length y = updF A.j m S.length y' := e
          by_cases e1 : y = m
          · by_cases e2 : y' = m
            · rw [e1, e2]
            · rw [e1, updF_self, updF_ne e2] at e
              have := (h.kj y' (hj y' hy' e2)).lt
              omega
          · by_cases e2 : y' = m
            · rw [e2, updF_self, updF_ne e1] at e
              have := (h.kj y (hj y hy e1)).lt
              omega
            · rw [updF_ne e1, updF_ne e2] at e
              exact h.ad.inj y (hj y hy e1) y' (hj y' hy' e2) e
    refine rest _ (.inr ⟨_, by rw [hlen]; exact hsd⟩) ⟨{ A with j := updF A.j m S.length }, rfl, r3, fr2.set _ (.inl (.inr (.inr (.inr (.inl rfl))))) (by omega), fun p o => ?_⟩ (insOf_at r3.ins)
    rcases o with o | o | o | o | ⟨y, hy, o⟩
    · exact .inl (.inl o)
    · exact .inl (.inr (.inl o))
    · exact .inl (.inr (.inr (.inl o)))
    · exact .inl (.inr (.inr (.inr (.inl o))))
    · replace o : p = updF A.j m S.length y := o
      by_cases e : y = m
      · rw [e, updF_self] at o
        exact .inr (by omega)
      · rw [updF_ne e] at o
        exact .inl (.inr (.inr (.inr (.inr ⟨y, (mem_addS.mp hy).resolve_left e, o⟩))))
def TS.toldL (T : TS) (n far : Int) : List Int := (T.knownBy n).filter fun h => decide (T.apart h n ≤ far)
theorem told_ok {wf n : Nat} {S : Sto} {A : TA} {T : TS} {m far : Int} (h : TRep c_Teller S A T) (hm : m ∈ T.ids) : run F wf (n + 3) i_Teller_told [.ref A.i, .int m, .int far] S = .ok (iL (TS.toldL T m far)) S := by
  have hz := hs_len h.ok
  have hz2 : (T.knownBy m).length ≤ 16777216 := Nat.le_trans (List.length_filter_le _ _) (by omega)
  refine R.of_To (run_To h_Teller_told rfl (to_nm ?_))
  simp [f_Teller_told, h.ins_of, h.th.ok, h.th.get2, hm]
  refine to_ret ?_
  simp [h.ins_of, known_by_ok h hm, iL, hz2]
  rw [lcD_filt D.int (fun y => decide (T.apart y m ≤ far)) D.int gok_nil _ (fun y hy => by
    have hy1 := h.ok.sub y (List.mem_filter.mp hy).1
    by_cases q : T.apart y m ≤ far
    · have q' := q
      unfold TS.apart at q'
      simp [h.ins_of, h.th.idx hy1, distance_ok, q, q']
    · have q' := q
      unfold TS.apart at q'
      simp [h.ins_of, h.th.idx hy1, distance_ok, q, q'])]
  simp [TS.toldL]
def newT (ds : Doors) : TS := ⟨ds, [], fun _ => ⟨(0, 0), 0, none⟩, [], fun _ => ⟨0, 0, 0⟩, fun _ _ => false⟩
theorem newT_ok {ds : Doors} (h : DOk ds) : (newT ds).Ok := ⟨h, by simp [newT], by simp [newT], by simp [newT], by simp [newT], by simp [newT], by simp [newT], by simp [newT]⟩
def newA (i : Nat) : TA := ⟨i, i + 1, i + 2, i + 3, fun _ => 0⟩
theorem putFD_len (f : Str) (v : D) : ∀ l : List (Str × D), (putFD f v l).length ≤ l.length + 1
  | [] => Nat.le_refl _
  | (g, x) :: r => by
    have := putFD_len f v r
    unfold putFD
    split <;> simp <;> omega
theorem make_ok {wf n : Nat} {S : Sto} {ds : Doors} (h : DOk ds) (h0 : 0 < S.length) :
    ∃ M, run F wf (n + 1) i_Teller___init__ [.ref S.length, .tup (ds.map pr)] (S ++ [.ins c_Teller []]) = .ok .non (S ++ M) ∧ TRep c_Teller (S ++ M) (newA S.length) (newT ds) ∧ M.length = 4 := by
  refine ⟨[.ins c_Teller (tfs (newT ds) (newA S.length)), .dK [], .dK [], .dK []], ?_, ?_, rfl⟩
  · refine R.of_To (run_To h_Teller___init__ rfl ?_)
    have hi : ∀ fs M, insOf (S ++ .ins c_Teller fs :: M) c_Teller (.ref S.length) = some (S.length, fs) := fun fs M => insOf_at (by simp)
    have hs : ∀ fs gs M, (S ++ Cell.ins c_Teller fs :: M).set S.length (.ins c_Teller gs) = S ++ .ins c_Teller gs :: M := fun fs gs M => by simp
    refine (tx_setF (Xc := fun _ _ => False) ?_).to
    simp
    refine ⟨_, _, hi _ _, by simp, ?_⟩
    rw [hs]
    refine tx_setF ?_
    simp
    have z1 := putFD_len "doors" (.tup (ds.map pr)) []
    have z2 := putFD_len "things" (.ref (S.length + 1)) (putFD "doors" (.tup (ds.map pr)) [])
    have z3 := putFD_len "sights" (.ref (S.length + 2)) (putFD "things" (.ref (S.length + 1)) (putFD "doors" (.tup (ds.map pr)) []))
    simp only [List.length_nil] at z1
    refine ⟨_, _, hi _ _, by omega, ?_⟩
    rw [hs]
    refine tx_setF ?_
    simp
    refine ⟨_, _, hi _ _, by omega, ?_⟩
    rw [hs]
    refine tx_setF ?_
    simp
    refine ⟨_, _, hi _ _, by omega, ?_⟩
    rw [hs]
    refine tx_nil ?_
    simp [tfs, newT, newA]
    rfl
  · have g : ∀ k, (S ++ [Cell.ins c_Teller (tfs (newT ds) (newA S.length)), Cell.dK [], Cell.dK [], Cell.dK []])[S.length + k]? = [Cell.ins c_Teller (tfs (newT ds) (newA S.length)), Cell.dK [], Cell.dK [], Cell.dK []][k]? := fun k => by
      rw [List.getElem?_append_right (by omega)]
      congr 1
      omega
    refine ⟨g 0, ⟨[], g 1, .nil⟩, ⟨[], g 2, .nil⟩, ⟨[], g 3, .nil⟩, by simp [newT], newT_ok h, ⟨by simp [newA]; omega, by simp [newA], by simp [newT], by simp [newT]⟩⟩
def RowQ (r : TS.Row) : Prop := ∃ q, r.t = some q ∧ QB q
theorem slc2 {S : Sto} {a b c d : D} : slcF S (.tup [a, b, c, d]) (some 2) none = some (.tup [c, d]) := by
  have h : cutD [a, b, c, d] (some 2) none = [c, d] := rfl
  simp [slcF, h]
theorem ahead_ok {wf n : Nat} {a b : TS.Row} {S : Sto} (ha : RowQ a) (hb : RowQ b) : run F wf (n + 2) i_is_ahead [dRow a, dRow b] S = .ok (.bl (aheadR a b)) S := by
  obtain ⟨p, ea, qa⟩ := ha
  obtain ⟨q, eb, qb⟩ := hb
  have l1 := less_ok (wf := wf) (n := n) (S := S) qa qb
  have l2 := lt_prs (S := S) (p := (a.h, a.n)) (q := (b.h, b.n))
  refine R.of_To (run_To h_is_ahead rfl (to_ite ?_))
  simp [f_is_ahead, dRow, ea, eb, dTm, ne_dQ]
  by_cases e : p = q
  · simp [e]
    refine to_ret ?_
    simp [pr] at l2
    simp [slc2, l2, aheadR, rt, ea, eb, e, prLt, hnLt]
  · simp [e]
    refine to_ret ?_
    simp [l1, aheadR, rt, ea, eb, e]
theorem insR_perm (l : List TS.Row) (r : TS.Row) : (insR l r).Perm (r :: l) := by
  unfold insR
  refine List.perm_middle.trans (List.Perm.cons r ?_)
  have : ((l.reverse.dropWhile (aheadR r)).reverse ++ (l.reverse.takeWhile (aheadR r)).reverse) = l := by
    rw [← List.reverse_append, List.takeWhile_append_dropWhile, List.reverse_reverse]
  rw [this]
theorem insR_len (l : List TS.Row) (r : TS.Row) : (insR l r).length = l.length + 1 := by
  rw [(insR_perm l r).length_eq]
  rfl
theorem insR_at {l : List TS.Row} {r : TS.Row} {k : Nat} (hk : k ≤ l.length) (h1 : ∀ x ∈ l.drop k, aheadR r x = true) (h2 : k = 0 ∨ ∃ x, l[k - 1]? = some x ∧ aheadR r x = false) : insR l r = l.take k ++ r :: l.drop k := by
  have e : l.reverse = (l.drop k).reverse ++ (l.take k).reverse := by
    rw [← List.reverse_append, List.take_append_drop]
  have ha : ∀ x ∈ (l.drop k).reverse, aheadR r x = true := fun x hx => h1 x (List.mem_reverse.mp hx)
  have hd : (l.take k).reverse.dropWhile (aheadR r) = (l.take k).reverse ∧ (l.take k).reverse.takeWhile (aheadR r) = [] := by
    rcases h2 with rfl | ⟨x, hx, hf⟩
    · simp
    · have hp : 0 < k := by
        rcases Nat.eq_zero_or_pos k with z | z
        · subst z
          have hx0 : l[0]? = some x := hx
          have := h1 x (by rw [List.drop_zero]; exact List.mem_of_getElem? hx0)
          rw [hf] at this
          cases this
        · exact z
      obtain ⟨j, rfl⟩ : ∃ j, k = j + 1 := ⟨k - 1, by omega⟩
      have hx' : l[j]? = some x := by simpa using hx
      have : l.take (j + 1) = l.take j ++ [x] := by rw [List.take_add_one, hx']; rfl
      rw [this, List.reverse_append]
      simp [hf]
  unfold insR
  rw [e, List.dropWhile_append_of_pos ha, hd.1, List.takeWhile_append_of_pos ha, hd.2]
  simp
theorem sortR_perm (R : List TS.Row) : (sortR R).Perm R := by
  have : ∀ (R l : List TS.Row), (R.foldl insR l).Perm (l ++ R) := by
    intro R
    induction R with
    | nil => intro l; simp
    | cons r R ih =>
      intro l
      rw [List.foldl_cons]
      refine (ih _).trans (((insR_perm l r).append_right R).trans ?_)
      exact List.perm_middle.symm
  show (R.foldl insR []).Perm R
  simpa using this R []
theorem sorted_rows_ok {wf n : Nat} {R : List TS.Row} {S : Sto} {r0 : Nat} (hw : 5000000 ≤ wf) (h0 : 0 < S.length) (hr0 : r0 ≠ 0) (hc : cellL S r0 = some (R.map dRow)) (hR : ∀ r ∈ R, RowQ r) (hl : R.length ≤ 4000000) :
    (run F wf (n + 3) i_sorted_rows [.ref r0] S).To fun d S' => ∃ f, d = .ref f ∧ cellL S' f = some ((sortR R).map dRow) ∧ Go 0 S S' := by
  obtain ⟨f, hf⟩ : ∃ f, f = S.length := ⟨_, rfl⟩
  refine run_To h_sorted_rows rfl (to_nm ?_)
  simp [f_sorted_rows]
  rw [← hf]
  have c0 : cellL (S ++ [.lst []]) f = some [] := by simp [cellL, hf]
  have g0 : Go 0 S (S ++ [.lst []]) := Go.push _ h0
  have cr : ∀ {S'}, Go 0 S S' → cellL S' r0 = some (R.map dRow) := fun g => cell_old g hr0 hc
  obtain ⟨J, hJ⟩ : ∃ J : List D → NT.Env → Sto → Prop, ∀ ds ρ S', J ds ρ S' ↔ (∃ pre post x2 x3, R = pre ++ post ∧ ds = post.map dRow ∧ ρ = [some (.ref r0), some (.ref f), x2, x3] ∧ cellL S' f = some ((pre.foldl insR []).map dRow) ∧ Go 0 S S') := ⟨_, fun _ _ _ => Iff.rfl⟩
  have hlen : ∀ pre : List TS.Row, (pre.foldl insR []).length = pre.length := fun pre => (sortR_perm pre).length_eq
  refine to_for (items := R.map dRow) (gs := [(r0, R.map dRow)]) (S1 := S ++ [.lst []]) (by simp [asSeq_ref (cr g0)]) J ((hJ _ _ _).mpr ⟨[], R, _, _, rfl, rfl, rfl, c0, g0⟩) (fun ds ρ S' hj => ?_) ?_ ?_
  · obtain ⟨_, _, _, _, _, _, _, _, g⟩ := (hJ _ _ _).mp hj
    exact gok_one (cr g)
  · intro d ds ρ S1 hj
    obtain ⟨pre, post, x2, x3, e1, e2, rfl, c1, g1⟩ := (hJ _ _ _).mp hj
    cases post with
    | nil => cases e2
    | cons r post =>
      cases e2
      have hl1 := hlen pre
      have hpl : pre.length < 4000000 := by
        have := congrArg List.length e1
        simp at this
        omega
      generalize hL : pre.foldl insR [] = L at c1 hl1
      have hrQ : RowQ r := hR r (by rw [e1]; simp)
      have hLQ : ∀ x ∈ L, RowQ x := fun x hx => hR x (by
        rw [e1]
        have : x ∈ pre := (sortR_perm pre).mem_iff.mp (by unfold sortR; rw [hL]; exact hx)
        simp [this])
      refine ⟨_, rfl, to_nm ?_⟩
      simp [lenD, asSeq_ref c1]
      obtain ⟨I, hI⟩ : ∃ I : Nat → NT.Env → Sto → Prop, ∀ m ρ T, I m ρ T ↔ (T = S1 ∧ ∃ k : Nat, ρ = [some (.ref r0), some (.ref f), some (dRow r), some (.int k)] ∧ k ≤ L.length ∧ k < m ∧ ∀ x ∈ L.drop k, aheadR r x = true) := ⟨_, fun _ _ _ => Iff.rfl⟩
      refine to_while I ((hI _ _ _).mpr ⟨rfl, L.length, rfl, Nat.le_refl _, by omega, by simp⟩) ?_
      intro m ρ T hi
      obtain ⟨rfl, k, rfl, k1, k2, k3⟩ := (hI _ _ _).mp hi
      obtain ⟨m', rfl⟩ : ∃ m', m = m' + 1 := ⟨m - 1, by omega⟩
      refine ⟨m', rfl, ?_⟩
      have fin : (k = 0 ∨ ∃ x, L[k - 1]? = some x ∧ aheadR r x = false) → (exs (run F wf (n + 2)) wf (.cons (.exp (.mth .insert (.var 1) (.cons (.var 3) (.cons (.var 2) .nil)))) .nil) [some (.ref r0), some (.ref f), some (dRow r), some (.int k)] T).To fun f_1 S' => match f_1 with | .nx ρ' => J (post.map dRow) ρ' S' | .ct ρ' => J (post.map dRow) ρ' S' | .bk ρ' => False | .rt v => False := fun hz => by
        have e := insR_at (r := r) k1 k3 hz
        refine to_exp ?_
        have hk62 : (k : Int) < 2 ^ 62 := by omega
        have hl2 : L.length < 16777216 := by omega
        have hins : insertD T [.ref f, .int k, dRow r] = some (.non, T.set f (.lst ((insR L r).map dRow))) := by
          have hh : (L.map dRow).length < sizeLine ∧ (0 : Int) ≤ k ∧ (k : Int) < 2 ^ 62 := ⟨by rw [List.length_map, szE]; exact hl2, by omega, hk62⟩
          simp only [insertD, c1]
          rw [if_pos hh, e]
          simp
        simp [Mth.ok, c1, hins]
        refine to_nil ((hJ _ _ _).mpr ⟨pre ++ [r], post, _, _, by simpa using e1, rfl, rfl, ?_, ?_⟩)
        · rw [cell_set (cell_lt c1), List.foldl_append, hL]
          rfl
        · exact Go.set _ S g1 (by omega) (by omega)
      by_cases hk0 : k = 0
      · subst hk0
        simp
        exact (fin (.inl rfl)).mono fun f_1 S' z => by cases f_1 <;> first | exact z | exact z.elim
      · have hkl : k - 1 < L.length := by omega
        have hx : L[k - 1]? = some L[k - 1] := by rw [List.getElem?_eq_getElem]
        generalize L[k - 1] = x at hx
        have hxQ := hLQ x (List.mem_of_getElem? hx)
        have hat : idxD T [.ref f, .int ((k : Int) - 1)] = some (dRow x, T) := by
          have hg : dGet T (.ref f) (.int ((k : Int) - 1)) = none := by
            unfold cellL at c1
            split at c1
            · rename_i q
              simp [dGet, q]
            · cases c1
          have ha : atI (L.map dRow) ((k : Int) - 1) = some (dRow x) := by
            rw [at_in (by omega) (by rw [List.length_map]; omega)]
            have : ((k : Int) - 1).toNat = k - 1 := by omega
            rw [this, List.getElem?_map, hx]
            rfl
          simp only [idxD, hg, asSeq_ref c1, ha]
          rfl
        have hk0' : 0 < k := by omega
        simp [hk0', hat, ahead_ok (wf := wf) (n := n) (S := T) hrQ hxQ]
        refine ⟨fun ht => ?_, fun hff => ?_⟩
        · refine to_nm ?_
          simp
          refine to_nil ((hI _ _ _).mpr ⟨rfl, k - 1, by simp; omega, by omega, by omega, fun y hy => ?_⟩)
          have : L.drop (k - 1) = x :: L.drop k := by
            rw [List.drop_eq_getElem_cons hkl, (List.getElem?_eq_some_iff.mp hx).2]
            congr 2
            omega
          rw [this] at hy
          rcases List.mem_cons.mp hy with rfl | hy
          · exact ht
          · exact k3 y hy
        · exact (fin (.inr ⟨x, hx, hff⟩)).mono fun f_1 S' z => by cases f_1 <;> first | exact z | exact z.elim
  · intro ρ S1 hj
    obtain ⟨pre, post, x2, x3, e1, e2, rfl, c1, g1⟩ := (hJ _ _ _).mp hj
    cases post with
    | cons r post => cases e2
    | nil =>
      rw [List.append_nil] at e1
      subst e1
      refine to_ret ?_
      simp
      exact ⟨c1, g1⟩
theorem lastK_app (k : Bool) : ∀ (es : List (Rat × Bool)) (e : Rat × Bool), lastK k (es ++ [e]) = e.2
  | [], e => rfl
  | a :: es, e => lastK_app a.2 es e
theorem alt_at {k : Bool} : ∀ {pre : List (Rat × Bool)} {e : Rat × Bool} {post : List (Rat × Bool)}, Alt k (pre ++ e :: post) → e.2 = !lastK k pre
  | [], e, post, h => h.1
  | a :: pre, e, post, h => alt_at (k := a.2) h.2
theorem ch_len {k : Bool} {w o : Way} {far slack : Int} : (chR k w o far slack).length ≤ 2 := by
  have hl : ∀ o t, (leftR o t).length ≤ 1 := fun o t => by
    unfold leftR
    split
    · simp
    · split
      · simp
      · split <;> simp
  unfold chR
  split
  · exact Nat.le_trans (hl _ _) (by omega)
  · split
    · simp
    · have := hl (whenR w o (far + slack)) ‹Rat × Rat›.1
      simp
      omega
theorem ch_QB {k : Bool} {w o : Way} {far slack : Int} (h1 : Sm (w.1.1 - o.1.1)) (h2 : Sm (w.2.1 - o.2.1)) (h3 : Sm (w.1.2 - o.1.2)) (h4 : Sm (w.2.2 - o.2.2)) (hf : Sm far) (hfs : Sm (far + slack)) : ∀ e ∈ chR k w o far slack, QB e.1 := by
  have hl : ∀ t, QB t → ∀ e ∈ leftR (whenR w o (far + slack)) t, QB e.1 := fun t ht e he => by
    unfold leftR at he
    split at he
    · simp at he
      subst he
      exact ht
    · rename_i q eq
      have := QB_when h1 h2 h3 h4 hfs eq
      split at he
      · simp at he
        subst he
        exact ht
      · split at he
        · cases he
        · simp at he
          subst he
          exact this.2
  intro e he
  unfold chR at he
  split at he
  · exact hl 0 QB_01.1 e he
  · split at he
    · cases he
    · rename_i t et
      have := QB_when h1 h2 h3 h4 hf et
      rcases List.mem_cons.mp he with rfl | he
      · exact this.1
      · exact hl _ this.1 e he
theorem put_put {T : TS} {x m : Int} {b b' : Bool} : TS.put (TS.put T x m b) x m b' = TS.put T x m b' := by
  unfold TS.put
  congr 1
  funext h k
  by_cases e : h = x ∧ k = m
  · simp [e]
  · simp [e]
theorem put_self {T : TS} {x m : Int} : TS.put T x m (T.kn x m) = T := by
  unfold TS.put
  congr 1
  funext h k
  split
  · rename_i e
    rw [e.1, e.2]
  · rfl
theorem sm_of {a b : Int} (ha : -1000 ≤ a ∧ a ≤ 1000) (hb : -1000 ≤ b ∧ b ≤ 1000) : Sm (a - b) := ⟨by omega, by omega⟩
def PlB (p : Int × Int) : Prop := -1000 ≤ p.1 ∧ p.1 ≤ 1000 ∧ -1000 ≤ p.2 ∧ p.2 ≤ 1000
theorem pair_turn_ok {wf n : Nat} {S : Sto} {A : TA} {T : TS} {x m : Int} {g : Nat} {gids : List Int} {gv : Int → D} {go : Int → Option (Int × Int)} (hw : 5000000 ≤ wf) (h : TRep c_Teller S A T) (h0 : 0 < S.length) (hx : x ∈ T.hs) (hm : m ∈ T.ids) (hne : m ≠ x)
    (hg : DK S g gids gv) (hgo : ∀ k, go k = none ∧ k ∉ gids ∨ ∃ p, go k = some p ∧ k ∈ gids ∧ gv k = dP p ∧ PlB p) :
    (run F wf (n + 6) i_Teller_pair_turn [.ref A.i, .int x, .int m, .ref g] S).To fun d S' => ∃ f, d = .ref f ∧ S.length ≤ f ∧ cellL S' f = some ((chRows x m (chs T go x m)).map dRow) ∧ TRep c_Teller S' A (T.put x m (lastK (T.kn x m) (chs T go x m))) ∧ Fr (own A T) 0 S S' := by
  have hi := h.ok.sub x hx
  have ptx := (h.ok.th x hi).p
  have ptm := (h.ok.th m hm).p
  have sx := (h.ok.si x hx)
  have hget : ∀ k ∈ T.ids, dgetD S [.ref g, .int k, dP (T.th k).p] = some (dP (wayOf T go k).2, S) := fun k hk => by
    rw [hg.get2]
    rcases hgo k with ⟨e1, e2⟩ | ⟨p, e1, e2, e3, _⟩
    · simp [wayOf, e1, e2]
    · simp [wayOf, e1, e2, e3]
  have hPl : ∀ k ∈ T.ids, PlB (wayOf T go k).2 := fun k hk => by
    rcases hgo k with ⟨e1, e2⟩ | ⟨p, e1, e2, e3, e4⟩
    · simp only [wayOf, e1]
      exact (h.ok.th k hk).p
    · simp only [wayOf, e1]
      exact e4
  obtain ⟨x1, x2, x3, x4⟩ := hPl x hi
  obtain ⟨m1, m2, m3, m4⟩ := hPl m hm
  obtain ⟨p1, p2, p3, p4⟩ := ptx
  obtain ⟨q1, q2, q3, q4⟩ := ptm
  have s1 : Sm ((wayOf T go x).1.1 - (wayOf T go m).1.1) := sm_of ⟨p1, p2⟩ ⟨q1, q2⟩
  have s2 : Sm ((wayOf T go x).2.1 - (wayOf T go m).2.1) := sm_of ⟨x1, x2⟩ ⟨m1, m2⟩
  have s3 : Sm ((wayOf T go x).1.2 - (wayOf T go m).1.2) := sm_of ⟨p3, p4⟩ ⟨q3, q4⟩
  have s4 : Sm ((wayOf T go x).2.2 - (wayOf T go m).2.2) := sm_of ⟨x3, x4⟩ ⟨m3, m4⟩
  have s5 : Sm (T.si x).far := ⟨by have := sx.far; omega, by have := sx.far; omega⟩
  have s6 : Sm ((T.si x).far + (T.si x).slack) := ⟨by have := sx.far; have := sx.slack; omega, by have := sx.far; have := sx.slack; omega⟩
  refine run_To h_Teller_pair_turn rfl (to_asg ?_)
  simp [f_Teller_pair_turn, h.ins_of, h.si.idx hx]
  refine to_nm ?_
  have hin : ∀ k ∈ [x, m], k ∈ T.ids := fun k hk => by
    rcases List.mem_cons.mp hk with rfl | hk
    · exact hi
    · rw [List.mem_singleton.mp hk]; exact hm
  have hw1 : ∀ k, (wayOf T go k).1 = (T.th k).p := fun k => rfl
  simp
  rw [show [D.int x, D.int m] = [x, m].map D.int from rfl, lcD_all D.int (fun k => dW (wayOf T go k)) gok_nil _ (fun k hk => by
    have hk' := hin k hk
    simp [h.ins_of, h.th.idx hk', hg.ok, hget k hk', dW, hw1])]
  simp
  refine to_nm ?_
  simp
  obtain ⟨f, hf⟩ : ∃ f, f = S.length := ⟨_, rfl⟩
  rw [← hf]
  have h1 : TRep c_Teller (S ++ [.lst []]) A T := h.of fun p o => List.getElem?_append_left (h.own_lt o).2
  have f0 : cellL (S ++ [.lst []]) f = some [] := by simp [cellL, hf]
  obtain ⟨d, S2, e2, rfl, g2⟩ := changes_ok0 (wf := wf) (n := n) (known := T.kn x m) (w := wayOf T go x) (o := wayOf T go m) (far := (T.si x).far) (slack := (T.si x).slack) (S := S ++ [.lst []]) s1 s2 s3 s4 s5 s6 hw (by simp)
  have h2 := h1.go g2
  have hf0 : f ≠ 0 := by omega
  have f2 : cellL S2 f = some [] := cell_old g2 hf0 f0
  have fr2 : Fr (own A T) 0 S S2 := (((Fr.refl (own A T) S).push (.lst []) h0).trans (g2.fr (O := own A T)) (fun _ o _ => o)).mono (by omega)
  obtain ⟨J, hJ⟩ : ∃ J : List (Rat × Bool) → NT.Env → Sto → Prop, ∀ pre ρ S', J pre ρ S' ↔ (∃ x9 x10 x11 x7, ρ = [some (.ref A.i), some (.int x), some (.int m), some (.ref g), some (.int (T.si x).far), some (.int (T.si x).slack), some (.int (T.si x).deep), x7, some (.ref f), x9, x10, x11] ∧ TRep c_Teller S' A (T.put x m (lastK (T.kn x m) pre)) ∧ Fr (own A T) 0 S S' ∧ cellL S' f = some ((chRows x m pre).map dRow)) := ⟨_, fun _ _ _ => Iff.rfl⟩
  refine to_forP (g := dE) (xs := chs T go x m) (S1 := S2) (by
    simp [h1.ins_of, h1.kn.idx hx, known_in h1 hx, e2, dEs]
    rfl) J ?_ ?_ ?_
  · refine (hJ _ _ _).mpr ⟨_, _, _, _, rfl, ?_, fr2, f2⟩
    show TRep c_Teller S2 A (T.put x m (T.kn x m))
    rw [put_self]
    exact h2
  · intro pre e post ρ S3 ex hj
    obtain ⟨x9, x10, x11, x7, rfl, r3, fr3, c3⟩ := (hJ _ _ _).mp hj
    have he : e.2 = !lastK (T.kn x m) pre := alt_at (by rw [← ex]; exact ch_alt)
    have hk3 : (T.put x m (lastK (T.kn x m) pre)).kn x m = lastK (T.kn x m) pre := by simp [TS.put]
    obtain ⟨c, t1, t2⟩ := turn_pair_ok (wf := wf) (n := n + 4) (b := e.2) r3 hx hm hne (fun z => by
      rw [hk3]
      rw [z] at he
      simpa using he.symm)
    have hpl : pre.length ≤ 2 := by
      have := congrArg List.length ex
      have l2 : (chs T go x m).length ≤ 2 := ch_len
      simp at this
      omega
    have hjf : f ≠ A.j x := by
      have := (h.kj x hx).lt
      omega
    have c4 : cellL (S3.set (A.j x) c) f = some ((chRows x m pre).map dRow) := by
      unfold cellL at c3 ⊢
      rw [List.getElem?_set_ne (Ne.symm hjf)]
      exact c3
    have hap : appendD (S3.set (A.j x) c) [.ref f, .tup [dQ e.1, .str (if e.2 then "met" else "lost"), .int x, .int m]] = some (.non, (S3.set (A.j x) c).set f (.lst ((chRows x m (pre ++ [e])).map dRow))) := by
      have hz : ((chRows x m pre).map dRow).length < sizeLine := by
        rw [List.length_map, szE]
        unfold chRows
        rw [List.length_map]
        omega
      simp only [appendD, c4]
      rw [if_pos hz]
      simp [chRows, dRow, dTm]
    refine ⟨_, rfl, to_exp ?_⟩
    simp only [e1_mth, plain1, e1_var, List.getElem?_cons_succ, List.getElem?_cons_zero, List.set_cons_succ, List.set_cons_zero, rbind_ok, Mth.ok, c3, Option.isSome_some, if_true, es_cons, es_nil, e1_tup, e1_meth, r3.ins_of, look_turn_pair, Option.isNone_none]
    simp [t1, hap]
    refine to_nil ((hJ _ _ _).mpr ⟨_, _, _, _, rfl, ?_, ?_, ?_⟩)
    · rw [lastK_app]
      rw [put_put] at t2
      exact t2.of fun p o => List.getElem?_set_ne (by
        have := (h.own_lt (T := T) (by exact o)).2
        omega)
    · exact (fr3.set _ (.inl (.inr (.inr (.inr (.inr ⟨x, hx, rfl⟩))))) (by have := h.ad.j x hx; omega)).set _ (.inr (by omega)) hf0
    · exact cell_set (by have := cell_lt c4; exact this)
  · intro ρ S3 hj
    obtain ⟨x9, x10, x11, x7, rfl, r3, fr3, c3⟩ := (hJ _ _ _).mp hj
    refine to_ret ?_
    simp
    exact ⟨c3, r3, fr3⟩
/-- what a turn is refused for: some true: no such thing; some false: twice moved -/
def turnExc (T : TS) : List (Int × (Int × Int)) → List Int → Option Bool
  | [], _ => none
  | m :: ms, seen => if m.1 ∉ T.ids then some true else if m.1 ∈ seen then some false else turnExc T ms (seen ++ [m.1])
def goalF (ms : List (Int × (Int × Int))) (n : Int) : Option (Int × Int) := (ms.find? fun m => decide (m.1 = n)).map (·.2)
/-- whom all know when the pairs P are done -/
noncomputable def tpart (T : TS) (go : Int → Option (Int × Int)) (P : Int → Int → Bool) : TS := { T with kn := fun h n => if P h n = true ∧ h ∈ T.hs ∧ n ∈ pairs T h then lastK (T.kn h n) (chs T go h n) else T.kn h n }
theorem tpart_chs {T : TS} {go : Int → Option (Int × Int)} {P : Int → Int → Bool} {x m : Int} (h : P x m = false) : chs (tpart T go P) go x m = chs T go x m ∧ (tpart T go P).kn x m = T.kn x m := by
  have : (tpart T go P).kn x m = T.kn x m := by simp [tpart, h]
  refine ⟨?_, this⟩
  unfold chs
  rw [this]
  rfl
theorem tpart_step {T : TS} {go : Int → Option (Int × Int)} {hs1 ids1 : List Int} {x m : Int} (hx : x ∈ T.hs) (hm : m ∈ pairs T x) : TS.put (tpart T go (pairP hs1 x ids1)) x m (lastK (T.kn x m) (chs T go x m)) = tpart T go (pairP hs1 x (ids1 ++ [m])) := by
  unfold TS.put tpart
  congr 1
  funext h n
  by_cases e : h = x ∧ n = m
  · obtain ⟨rfl, rfl⟩ := e
    simp [pairP, hx, hm]
  · rw [if_neg e]
    have : pairP hs1 x ids1 h n = pairP hs1 x (ids1 ++ [m]) h n := by
      unfold pairP
      by_cases e1 : h = x
      · have e2 : n ≠ m := fun z => e ⟨e1, z⟩
        simp [e2]
      · simp [e1]
    show (if pairP hs1 x ids1 h n = true ∧ h ∈ T.hs ∧ n ∈ pairs T h then _ else T.kn h n) = _
    rw [this]
theorem tpart_same {T : TS} {go : Int → Option (Int × Int)} {P P' : Int → Int → Bool} (h : ∀ x n, x ∈ T.hs → n ∈ pairs T x → P x n = P' x n) : tpart T go P = tpart T go P' := by
  unfold tpart
  congr 1
  funext x n
  by_cases a : x ∈ T.hs ∧ n ∈ pairs T x
  · rw [h x n a.1 a.2]
  · have : ∀ b : Prop, ¬ (b ∧ x ∈ T.hs ∧ n ∈ pairs T x) := fun b z => a z.2
    rw [if_neg (this _), if_neg (this _)]
theorem tpart_none {T : TS} {go : Int → Option (Int × Int)} : tpart T go (fun _ _ => false) = T := by
  unfold tpart
  simp
/-- the goals laid in a dict -/
structure Goals (S : Sto) (g : Nat) (pre : List (Int × (Int × Int))) (gids : List Int) : Prop where
  up : Up gids
  mem : ∀ n, n ∈ gids ↔ n ∈ pre.map (·.1)
  dk : DK S g gids fun n => dP ((goalF pre n).getD (0, 0))
theorem goalF_none {pre : List (Int × (Int × Int))} {n : Int} : goalF pre n = none ↔ n ∉ pre.map (·.1) := by
  unfold goalF
  rw [Option.map_eq_none_iff, List.find?_eq_none]
  simp only [decide_eq_true_eq, List.mem_map, not_exists, not_and]
theorem goalF_app {pre : List (Int × (Int × Int))} {m : Int × (Int × Int)} {n : Int} : goalF (pre ++ [m]) n = (goalF pre n).or (if m.1 = n then some m.2 else none) := by
  unfold goalF
  rw [List.find?_append]
  cases pre.find? fun m => decide (m.1 = n) with
  | none =>
    by_cases e : m.1 = n <;> simp [e]
  | some q => rfl
theorem goalF_mem {pre : List (Int × (Int × Int))} {n : Int} {p : Int × Int} (h : goalF pre n = some p) : (n, p) ∈ pre := by
  unfold goalF at h
  obtain ⟨q, e1, rfl⟩ := Option.map_eq_some_iff.mp h
  have h1 := List.mem_of_find?_eq_some e1
  have h2 := List.find?_some e1
  have : q.1 = n := by simpa using h2
  subst this
  exact h1
theorem turnExc_app {T : TS} : ∀ (pre post : List (Int × (Int × Int))) (seen : List Int), turnExc T pre seen = none → turnExc T (pre ++ post) seen = turnExc T post (seen ++ pre.map (·.1))
  | [], post, seen, _ => by simp
  | m :: pre, post, seen, h => by
    rw [turnExc] at h
    rw [List.cons_append, turnExc]
    split at h
    · cases h
    · rename_i h1
      rw [if_neg h1]
      split at h
      · cases h
      · rename_i h2
        rw [if_neg h2, turnExc_app pre post _ h]
        simp
/-- a locked dict looked into -/
theorem frz_idx {S : Sto} {a : Nat} {v : Int → D} {l : List Int} {n : Int} (e : S[a]? = some (.frz (.dK (dk v l)))) (hn : n ∈ l) : idxD S [.ref a, .int n] = some (v n, S) := by
  simp [idxD, dGet, e, keyOf, look_dk, hn]
theorem turnRows_len (T : TS) (go : Int → Option (Int × Int)) (ok : T.Ok) : ∀ hs : List Int, (hs.flatMap fun x => pairRows T go x (pairs T x)).length ≤ hs.length * 2000
  | [] => by simp
  | x :: hs => by
    have ih := turnRows_len T go ok hs
    have h1 : ∀ l : List Int, (pairRows T go x l).length ≤ l.length * 2 := fun l => by
      induction l with
      | nil => simp [pairRows]
      | cons a l ih =>
        unfold pairRows at ih ⊢
        have : (chRows x a (chs T go x a)).length ≤ 2 := by
          unfold chRows
          rw [List.length_map]
          exact ch_len
        rw [List.flatMap_cons, List.length_append, List.length_cons]
        omega
    have h2 : (pairs T x).length ≤ 1000 := Nat.le_trans (List.length_filter_le _ _) ok.few
    have h3 := h1 (pairs T x)
    rw [List.flatMap_cons, List.length_append, List.length_cons]
    omega
theorem run_TX {wf n i : Nat} {fi : FI} (h : F[i]? = some fi) {ds : List D} {S : Sto} {Q : D → Sto → Prop} {Xc : Nat → Sto → Prop} (hl : ds.length = fi.ps.length)
    (hb : (exs (run F wf n) wf fi.body (ds.map some ++ List.replicate (fi.N.length - ds.length) none) S).TX (fun f S => match f with | .nx _ => Q .non S | .rt d => Q d S | _ => False) Xc) : (run F wf (n + 1) i ds S).TX Q Xc := by
  rw [run_at h S hl]
  exact callR_TX hb
def dMv (m : Int × (Int × Int)) : D := .tup [.int m.1, dP m.2]
@[simp] theorem bnd_Mv {m : Int × (Int × Int)} {a b : Nat} {ρ : NT.Env} : (Pat.tp [a, b]).bnd (dMv m) ρ = some ((ρ.set a (some (.int m.1))).set b (some (dP m.2))) := rfl
theorem Goals.fr {S S' : Sto} {g : Nat} {pre : List (Int × (Int × Int))} {gids : List Int} {O : Nat → Prop} {k : Nat} (h : Goals S g pre gids) (f : Fr O k S S') (hg : g ≠ 0) (ho : ¬ O g) : Goals S' g pre gids :=
  ⟨h.up, h.mem, h.dk.of (f.old g hg ho h.dk.lt)⟩
def movedS (T : TS) (go : Int → Option (Int × Int)) (pre : List Int) : TS := { T with th := fun n => if n ∈ pre then { T.th n with p := (go n).getD (T.th n).p } else T.th n }
theorem movedS_ok {T : TS} {go : Int → Option (Int × Int)} {pre : List Int} (ok : T.Ok) (h : ∀ n p, go n = some p → PlB p) : (movedS T go pre).Ok :=
  ⟨ok.doors, ok.ids, ok.hs, ok.sub, fun m hm => by
    show (if m ∈ pre then _ else T.th m : Th).Ok
    split
    · refine ⟨?_, (ok.th m hm).room⟩
      cases e : go m with
      | none => exact (ok.th m hm).p
      | some p => exact h m p e
    · exact ok.th m hm, ok.si, ok.kn, ok.few⟩
theorem movedS_step {T : TS} {go : Int → Option (Int × Int)} {pre : List Int} {m : Int} {p : Int × Int} (hn : m ∉ pre) (e : go m = some p) : updF (movedS T go pre).th m { (movedS T go pre).th m with p := p } = (movedS T go (pre ++ [m])).th := by
  funext n
  unfold updF movedS
  by_cases q : n = m
  · subst q
    simp [hn, e]
  · simp [q]
theorem turn_tail {wf n : Nat} {S S1 : Sto} {A : TA} {T : TS} {g : Nat} {ms : List (Int × (Int × Int))} {gids : List Int} {x3 x4 : Option D} (hw : 5000000 ≤ wf) (h : TRep c_Teller S A T) (h0 : 0 < S.length) (hg : S.length ≤ g) (h1 : TRep c_Teller S1 A T) (g1 : Go 0 S S1) (G : Goals S1 g ms gids) (hp : ∀ m ∈ ms, PlB m.2) (hms : ∀ m ∈ ms, m.1 ∈ T.ids) :
    (exs (run F wf (n + 6)) wf (.cons (.asg (.nm 5) (.lstR .nil))
  (.cons (.for_ (.nm 6) (.seq (.meth c_Teller "hearers" i_Teller_hearers (.var 0) .nil)) (.cons (.for_ (.nm 3) (.seq (.bi .sorted (.cons (.fld (.var 0) c_Teller "things") .nil))) (.cons (.ite (.and (.cmp .ne (.var 3) (.var 6)) (.and (.not (.meth c_Teller "is_joined" i_Teller_is_joined (.var 0) (.cons (.var 6) (.cons (.var 3) .nil)))) (.one (.meth c_Teller "can_hear" i_Teller_can_hear (.var 0) (.cons (.var 6) (.cons (.var 3) .nil)))))) (.cons (.exp (.mth .extend (.var 5) (.cons (.meth c_Teller "pair_turn" i_Teller_pair_turn (.var 0) (.cons (.var 6) (.cons (.var 3) (.cons (.var 2) .nil)))) .nil)))
  .nil) .nil)
  .nil))
  .nil))
  (.cons (.lk (.var 2) (.for_ (.nm 3) (.keys (.var 2)) (.cons (.asg (.tp [4, 7, 8]) (.idx (.fld (.var 0) c_Teller "things") (.var 3)))
  (.cons (.setI (.fld (.var 0) c_Teller "things") (.var 3) (.tup (.cons (.idx (.var 2) (.var 3)) (.cons (.var 7) (.cons (.var 8) .nil)))))
  .nil))))
  (.cons (.ret (.bt .tuple (.cons (.call i_sorted_rows (.cons (.var 5) .nil)) .nil)))
  .nil)))) [some (.ref A.i), some (.tup (ms.map dMv)), some (.ref g), x3, x4, none, none, none, none] S1).To fun f S' => ∃ d, f = .rt d ∧ d = .tup ((sortR (turnRows T (goalF ms))).map dRow) ∧ TRep c_Teller S' A (turnS T (goalF ms)) ∧ Fr (own A T) 0 S S' := by
  have hz := h.ok.few
  have hz2 := hs_len h.ok
  obtain ⟨go, hgo⟩ : ∃ go, go = goalF ms := ⟨_, rfl⟩
  rw [← hgo]
  have hgP : ∀ k, go k = none ∧ k ∉ gids ∨ ∃ p, go k = some p ∧ k ∈ gids ∧ dP ((goalF ms k).getD (0, 0)) = dP p ∧ PlB p := fun k => by
    rw [hgo]
    cases e : goalF ms k with
    | none => exact .inl ⟨rfl, fun z => goalF_none.mp e ((G.mem k).mp z)⟩
    | some p => exact .inr ⟨p, rfl, (G.mem k).mpr (List.mem_map.mpr ⟨_, goalF_mem e, rfl⟩), rfl, hp _ (goalF_mem e)⟩
  have hg0 : g ≠ 0 := by omega
  have hgo' : ∀ {P : TS}, P.hs = T.hs → ¬ own A P g := fun {P} e z => by
    have : own A T g := by
      rcases z with z | z | z | z | ⟨y, hy, z⟩
      · exact .inl z
      · exact .inr (.inl z)
      · exact .inr (.inr (.inl z))
      · exact .inr (.inr (.inr (.inl z)))
      · exact .inr (.inr (.inr (.inr ⟨y, by rw [← e]; exact hy, z⟩)))
    have := (h.own_lt this).2
    omega
  refine to_nm ?_
  simp
  obtain ⟨f, hf⟩ : ∃ f, f = S1.length := ⟨_, rfl⟩
  rw [← hf]
  have hgf : g < f := by rw [hf]; exact G.dk.lt
  have h1' : TRep c_Teller (S1 ++ [.lst []]) A T := h1.of fun p o => List.getElem?_append_left (h1.own_lt o).2
  have f0 : cellL (S1 ++ [.lst []]) f = some [] := by simp [cellL, hf]
  have hf0 : f ≠ 0 := by omega
  have hSf : S.length ≤ f := by omega
  have fr1 : Fr (own A T) 0 S (S1 ++ [.lst []]) := (g1.fr (O := own A T)).push _ h0
  have G1 : Goals (S1 ++ [.lst []]) g ms gids := ⟨G.up, G.mem, G.dk.of (List.getElem?_append_left G.dk.lt)⟩
  obtain ⟨K, hK⟩ : ∃ K : (Int → Int → Bool) → List TS.Row → Sto → Prop, ∀ P R S', K P R S' ↔ (TRep c_Teller S' A (tpart T go P) ∧ Fr (own A T) 0 S S' ∧ cellL S' f = some (R.map dRow) ∧ Goals S' g ms gids) := ⟨_, fun _ _ _ => Iff.rfl⟩
  obtain ⟨J, hJ⟩ : ∃ J : List Int → NT.Env → Sto → Prop, ∀ hs1 ρ S', J hs1 ρ S' ↔ (∃ x3 x6, ρ = [some (.ref A.i), some (.tup (ms.map dMv)), some (.ref g), x3, x4, some (.ref f), x6, none, none] ∧ K (fun h n => decide (h ∈ hs1)) (hs1.flatMap fun x => pairRows T go x (pairs T x)) S') := ⟨_, fun _ _ _ => Iff.rfl⟩
  refine to_forP (g := D.int) (xs := T.hs) (S1 := S1 ++ [.lst []]) (by simp [h1'.ins_of, hearers_ok h1', iL]) J ?_ ?_ ?_
  · refine (hJ _ _ _).mpr ⟨_, _, rfl, (hK _ _ _).mpr ⟨?_, fr1, f0, G1⟩⟩
    have : (fun (h n : Int) => decide (h ∈ ([] : List Int))) = fun _ _ => false := by funext h n; simp
    rw [this, tpart_none]
    exact h1'
  · intro hs1 x post ρ S2 exs1 hj
    obtain ⟨x3, x6, rfl, hk⟩ := (hJ _ _ _).mp hj
    have hx : x ∈ T.hs := by rw [exs1]; simp
    have hx1 : x ∉ hs1 := by
      have := h.ok.hs.nodup
      rw [exs1, List.nodup_append] at this
      exact fun z => this.2.2 x z x (by simp) rfl
    have hi := h.ok.sub x hx
    refine ⟨_, rfl, ?_⟩
    obtain ⟨J2, hJ2⟩ : ∃ J2 : List Int → NT.Env → Sto → Prop, ∀ ids1 ρ S', J2 ids1 ρ S' ↔ (∃ x3, ρ = [some (.ref A.i), some (.tup (ms.map dMv)), some (.ref g), x3, x4, some (.ref f), some (.int x), none, none] ∧ K (pairP hs1 x ids1) ((hs1.flatMap fun x => pairRows T go x (pairs T x)) ++ pairRows T go x (ids1.filter fun n => decide (n ∈ pairs T x))) S') := ⟨_, fun _ _ _ => Iff.rfl⟩
    obtain ⟨r1, r2, r3, r4⟩ := (hK _ _ _).mp hk
    have hs := r1.th.sorted r1.ok.ids (by have := r1.ok.few; omega)
    refine to_forP (g := D.int) (xs := T.ids) (S1 := S2) (by simp [r1.ins_of, hs]; rfl) J2 ?_ ?_ ?_
    · refine (hJ2 _ _ _).mpr ⟨_, rfl, (hK _ _ _).mpr ⟨?_, r2, by simpa [pairRows] using r3, r4⟩⟩
      have : pairP hs1 x [] = fun h n => decide (h ∈ hs1) := by funext h n; simp [pairP]
      rw [this]
      exact r1
    · intro ids1 m post2 ρ S3 exs2 hj2
      obtain ⟨x3, rfl, hk2⟩ := (hJ2 _ _ _).mp hj2
      obtain ⟨q1, q2, q3, q4⟩ := (hK _ _ _).mp hk2
      have hm : m ∈ T.ids := by rw [exs2]; simp
      have hm1 : m ∉ ids1 := by
        have := h.ok.ids.nodup
        rw [exs2, List.nodup_append] at this
        exact fun z => this.2.2 m z m (by simp) rfl
      have hP : pairP hs1 x ids1 x m = false := by simp [pairP, hx1, hm1]
      have skip : m ∉ pairs T x → K (pairP hs1 x (ids1 ++ [m])) ((hs1.flatMap fun x => pairRows T go x (pairs T x)) ++ pairRows T go x ((ids1 ++ [m]).filter fun n => decide (n ∈ pairs T x))) S3 := fun hn => by
        rw [List.filter_append, List.filter_cons, decide_eq_false hn]
        simp only [Bool.false_eq_true, if_false, List.filter_nil, List.append_nil]
        have : tpart T go (pairP hs1 x (ids1 ++ [m])) = tpart T go (pairP hs1 x ids1) := tpart_same fun h n _ hnp => by
          unfold pairP
          by_cases e1 : h = x
          · subst e1
            have : n ≠ m := fun z => hn (by rw [← z]; exact hnp)
            simp [this]
          · simp [e1]
        exact (hK _ _ _).mpr ⟨by rw [this]; exact q1, q2, q3, q4⟩
      refine ⟨_, rfl, to_ite ?_⟩
      by_cases hne : m = x
      · have hn : m ∉ pairs T x := fun z => (mem_pairs.mp z).2.1 hne
        simp [hne]
        refine to_nil ((hJ2 _ _ _).mpr ⟨_, rfl, ?_⟩)
        rw [hne] at skip hn
        exact skip hn
      · have ej := joined_ok (wf := wf) (n := n + 5) q1 hi hm
        have ej' : (tpart T go (pairP hs1 x ids1)).joined x m = T.joined x m := rfl
        rw [ej'] at ej
        by_cases hjn : T.joined x m = true
        · have hn : m ∉ pairs T x := fun z => by
            have := (mem_pairs.mp z).2.2.1
            rw [hjn] at this
            cases this
          simp [hne, q1.ins_of, ej, hjn]
          exact to_nil ((hJ2 _ _ _).mpr ⟨_, rfl, skip hn⟩)
        · have hjn' : T.joined x m = false := by simpa using hjn
          obtain ⟨c1, c2, eh⟩ := hear_ok (wf := wf) (n := n + 2) (by omega) q1 hx hm
          have eh' : (tpart T go (pairP hs1 x ids1)).hears x m = T.hears x m := rfl
          rw [eh'] at eh
          have hl3 := cell_lt q3
          have q1' : TRep c_Teller (S3 ++ [c1, c2]) A (tpart T go (pairP hs1 x ids1)) := q1.of fun p o => List.getElem?_append_left (q1.own_lt o).2
          have q2' : Fr (own A T) 0 S (S3 ++ [c1, c2]) := q2.app _ h0
          have q3' : cellL (S3 ++ [c1, c2]) f = some (((hs1.flatMap fun x => pairRows T go x (pairs T x)) ++ pairRows T go x (ids1.filter fun n => decide (n ∈ pairs T x))).map dRow) := by
            unfold cellL at q3 ⊢
            rw [List.getElem?_append_left hl3]
            exact q3
          have q4' : Goals (S3 ++ [c1, c2]) g ms gids := ⟨q4.up, q4.mem, q4.dk.of (List.getElem?_append_left q4.dk.lt)⟩
          simp [hne, q1.ins_of, ej, hjn', eh]
          refine ⟨fun hh => ?_, fun hh => ?_⟩
          · have hmp : m ∈ pairs T x := mem_pairs.mpr ⟨hm, hne, hjn', hh⟩
            obtain ⟨d, S4, e4, f2, rfl, hf2, c4, t4, fr4⟩ := pair_turn_ok (wf := wf) (n := n) (go := go) (x := x) (m := m) hw q1' (by simp) hx hm hne q4'.dk hgP
            obtain ⟨ec1, ec2⟩ := tpart_chs (T := T) (go := go) (P := pairP hs1 x ids1) hP
            rw [ec1] at c4
            rw [ec1, ec2, tpart_step hx hmp] at t4
            have hl3' := cell_lt q3'
            have hof : ¬ own A (tpart T go (pairP hs1 x ids1)) f := fun z => by
              have := (h.own_lt (T := T) z).2
              omega
            have c5 : cellL S4 f = some (((hs1.flatMap fun x => pairRows T go x (pairs T x)) ++ pairRows T go x (ids1.filter fun n => decide (n ∈ pairs T x))).map dRow) := by
              unfold cellL at q3' ⊢
              rw [fr4.old f hf0 hof hl3']
              exact q3'
            have hff2 : f ≠ f2 := by omega
            have hlen : (((hs1.flatMap fun x => pairRows T go x (pairs T x)) ++ pairRows T go x (ids1.filter fun n => decide (n ∈ pairs T x)))).length + (chRows x m (chs T go x m)).length ≤ 16777216 := by
              have a1 := turnRows_len T go h.ok hs1
              have a2 : hs1.length ≤ 1000 := by
                have := congrArg List.length exs1
                simp at this
                omega
              have a3 : (chRows x m (chs T go x m)).length ≤ 2 := by
                unfold chRows
                rw [List.length_map]
                exact ch_len
              have a4 : ∀ l : List Int, (pairRows T go x l).length ≤ l.length * 2 := fun l => by
                induction l with
                | nil => simp [pairRows]
                | cons a l ih =>
                  unfold pairRows at ih ⊢
                  have : (chRows x a (chs T go x a)).length ≤ 2 := by
                    unfold chRows
                    rw [List.length_map]
                    exact ch_len
                  rw [List.flatMap_cons, List.length_append, List.length_cons]
                  omega
              have a5 := a4 (ids1.filter fun n => decide (n ∈ pairs T x))
              have a6 : (ids1.filter fun n => decide (n ∈ pairs T x)).length ≤ 1000 := by
                refine Nat.le_trans (List.length_filter_le _ _) ?_
                have := congrArg List.length exs2
                simp at this
                omega
              rw [List.length_append]
              omega
            have hex : extendD S4 [.ref f, .ref f2] = some (.non, S4.set f (.lst ((((hs1.flatMap fun x => pairRows T go x (pairs T x)) ++ pairRows T go x (ids1.filter fun n => decide (n ∈ pairs T x))) ++ chRows x m (chs T go x m)).map dRow))) := by
              have ht : trkL S4 (.ref f2) = some ((chRows x m (chs T go x m)).map dRow) := by
                simpa [trkL] using c4
              simp only [extendD, c5, ht]
              rw [if_pos (by rw [List.length_map, List.length_map, szE]; exact hlen)]
              simp
            refine to_exp ?_
            simp only [e1_mth, plain1, e1_var, List.getElem?_cons_succ, List.getElem?_cons_zero, List.set_cons_succ, List.set_cons_zero, rbind_ok, Mth.ok, q3', Option.isSome_some, if_true, es_cons, es_nil, e1_meth, q1'.ins_of, look_pair_turn, Option.isNone_none]
            simp [e4, hex]
            refine to_nil ((hJ2 _ _ _).mpr ⟨_, rfl, (hK _ _ _).mpr ⟨?_, ?_, ?_, ?_⟩⟩)
            · exact t4.of fun p o => List.getElem?_set_ne (by
                have := (h.own_lt (T := T) (by exact o)).2
                omega)
            · exact ((q2'.trans fr4 (fun i o _ => o)).set _ (.inr hSf) hf0).mono (by omega)
            · rw [cell_set (cell_lt c5)]
              rw [List.filter_append, List.filter_cons, decide_eq_true hmp]
              simp [pairRows]
            · exact ⟨q4'.up, q4'.mem, (q4'.dk.of (fr4.old g hg0 (hgo' rfl) q4'.dk.lt)).of (List.getElem?_set_ne (by omega))⟩
          · have hn : m ∉ pairs T x := fun z => by
              have := (mem_pairs.mp z).2.2.2
              rw [hh] at this
              cases this
            obtain ⟨z1, z2, z3, z4⟩ := (hK _ _ _).mp (skip hn)
            refine to_nil ((hJ2 _ _ _).mpr ⟨_, rfl, (hK _ _ _).mpr ⟨z1.of fun p o => List.getElem?_append_left (z1.own_lt o).2, q2', ?_, q4'⟩⟩)
            unfold cellL at z3 ⊢
            rw [List.getElem?_append_left hl3]
            exact z3
    · intro ρ S3 hj2
      obtain ⟨x3, rfl, hk2⟩ := (hJ2 _ _ _).mp hj2
      obtain ⟨q1, q2, q3, q4⟩ := (hK _ _ _).mp hk2
      refine to_nil ((hJ _ _ _).mpr ⟨_, _, rfl, (hK _ _ _).mpr ⟨?_, q2, ?_, q4⟩⟩)
      · have : tpart T go (pairP hs1 x T.ids) = tpart T go (fun h n => decide (h ∈ hs1 ++ [x])) := tpart_same fun h n _ hn => by
          have hn' := (mem_pairs.mp hn).1
          unfold pairP
          by_cases e1 : h ∈ hs1 <;> by_cases e2 : h = x <;> simp [e1, e2, hn']
        rw [← this]
        exact q1
      · rw [List.flatMap_append, List.flatMap_cons, List.flatMap_nil, List.append_nil]
        have : (T.ids.filter fun n => decide (n ∈ pairs T x)) = pairs T x := by
          refine (h.ok.ids.filter _).uniq (h.ok.ids.filter _) fun m => ?_
          rw [List.mem_filter, decide_eq_true_eq]
          exact ⟨fun z => z.2, fun z => ⟨(mem_pairs.mp z).1, z⟩⟩
        rw [this] at q3
        exact q3
  · intro ρ S2 hj
    obtain ⟨x3, x6, rfl, hk⟩ := (hJ _ _ _).mp hj
    obtain ⟨q1, q2, q3, q4⟩ := (hK _ _ _).mp hk
    have hS2 : S2.length ≥ S.length := q2.len
    -- the locked walk
    obtain ⟨l, hl, hlp⟩ := id q4.dk
    generalize hv : (fun n => dP ((goalF ms n).getD (0, 0))) = v at hl
    have hlg := q4.dk.lt
    obtain ⟨S4, hS4⟩ : ∃ S4, S4 = S2.set g (.frz (.dK (dk v l))) := ⟨_, rfl⟩
    have hg4 : S4[g]? = some (.frz (.dK (dk v l))) := by rw [hS4]; exact set_at hl
    have rT2 : TRep c_Teller S4 A (tpart T go (fun h n => decide (h ∈ T.hs))) := by
      rw [hS4]
      exact q1.of fun p o => List.getElem?_set_ne fun z => hgo' (P := tpart T go (fun h n => decide (h ∈ T.hs))) rfl (by rw [z]; exact o)
    have hf4 : cellL S4 f = cellL S2 f := by
      unfold cellL
      rw [hS4, List.getElem?_set_ne (by omega)]
    have hmem : ∀ k ∈ l, ∃ p, go k = some p ∧ v k = dP p ∧ PlB p ∧ k ∈ T.ids := fun k hk => by
      rcases hgP k with ⟨_, e2⟩ | ⟨p, e1, e2, e3, e4⟩
      · exact absurd (hlp.mem_iff.mp hk) e2
      · refine ⟨p, e1, by rw [← hv]; exact e3, e4, ?_⟩
        obtain ⟨w, hw1, hw2⟩ := List.mem_map.mp ((q4.mem k).mp e2)
        rw [← hw2]
        exact hms w hw1
    have hlen4 : S4.length = S2.length := by rw [hS4]; simp
    have hgoP : ∀ n p, go n = some p → PlB p := fun n p e => by
      rw [hgo] at e
      exact hp _ (goalF_mem e)
    refine to_lk (i := g) (S0 := S2) (kvs := dk v l) (by simp) hl ?_
    rw [← hS4]
    obtain ⟨J3, hJ3⟩ : ∃ J3 : List Int → NT.Env → Sto → Prop, ∀ pre ρ S', J3 pre ρ S' ↔ (∃ x3 x4 x7 x8, ρ = [some (.ref A.i), some (.tup (ms.map dMv)), some (.ref g), x3, x4, some (.ref f), x6, x7, x8] ∧ TRep c_Teller S' A (movedS (tpart T go (fun h n => decide (h ∈ T.hs))) go pre) ∧ Fr (own A T) 0 S4 S' ∧ S'[g]? = some (.frz (.dK (dk v l))) ∧ cellL S' f = cellL S2 f) := ⟨_, fun _ _ _ => Iff.rfl⟩
    refine to_forP (g := D.int) (xs := l) (S1 := S4) (by simp [keysF_dk hg4]) J3 ?_ ?_ ?_
    · refine (hJ3 _ _ _).mpr ⟨_, _, _, _, rfl, ?_, Fr.refl _ _, hg4, hf4⟩
      have : movedS (tpart T go (fun h n => decide (h ∈ T.hs))) go [] = tpart T go (fun h n => decide (h ∈ T.hs)) := by
        unfold movedS
        simp
      rw [this]
      exact rT2
    · intro pre m post ρ S5 ex hj3
      obtain ⟨x3, x4, x7, x8, rfl, t1, t2, t3, t4⟩ := (hJ3 _ _ _).mp hj3
      have hml : m ∈ l := by rw [ex]; simp
      obtain ⟨p, e1, e2, e3, e4⟩ := hmem m hml
      have hmp : m ∉ pre := by
        have nd : l.Nodup := hlp.nodup_iff.mpr q4.up.nodup
        rw [ex, List.nodup_append] at nd
        exact fun z => nd.2.2 m z m (by simp) rfl
      have hmi : m ∈ (movedS (tpart T go (fun h n => decide (h ∈ T.hs))) go pre).ids := e4
      obtain ⟨c, s1, d1⟩ := t1.th.set (by have := t1.ok.few; omega) m (dTh { (movedS (tpart T go (fun h n => decide (h ∈ T.hs))) go pre).th m with p := p })
      rw [updF_dTh, addS_in hmi, movedS_step hmp e1] at d1
      have t1' := TRep.setA t1 d1 (movedS_ok (T := tpart T go (fun h n => decide (h ∈ T.hs))) (pre := pre ++ [m]) (go := go) rT2.ok hgoP)
      have hag : A.a ≠ g := fun z => hgo' (P := T) rfl (.inr (.inl z.symm))
      have hof : ¬ own A T f := fun z => by
        have := (h.own_lt z).2
        omega
      refine ⟨_, rfl, to_asg ?_⟩
      simp [t1.ins_of, t1.th.idx hmi]
      refine to_setI ?_
      simp [dTh] at s1
      simp [t1.ins_of, frz_idx t3 hml, e2, s1]
      refine to_nil ((hJ3 _ _ _).mpr ⟨_, _, _, _, rfl, t1', t2.set _ (.inl (.inr (.inl rfl))) (by have := h.ad.nz; omega), ?_, ?_⟩)
      · rw [List.getElem?_set_ne hag]
        exact t3
      · unfold cellL at t4 ⊢
        rw [List.getElem?_set_ne (fun z => hof (.inr (.inl z.symm)))]
        exact t4
    · intro ρ S5 hj3
      obtain ⟨x3, x4, x7, x8, rfl, t1, t2, t3, t4⟩ := (hJ3 _ _ _).mp hj3
      refine to_nil ⟨t3, ?_⟩
      have hfin : movedS (tpart T go (fun h n => decide (h ∈ T.hs))) go l = turnS T go := by
        unfold movedS tpart turnS
        congr 1
        · funext n
          dsimp only
          by_cases hn : n ∈ l
          · rw [if_pos hn]
          · rw [if_neg hn]
            rcases hgP n with ⟨e1, _⟩ | ⟨p, e1, e2, _⟩
            · rw [e1]
              rfl
            · exact absurd (hlp.mem_iff.mpr e2) hn
        · funext h n
          dsimp only
          congr 1
          rw [eq_iff_iff]
          simp
      rw [hfin] at t1
      have hg5 : g < S5.length := (List.getElem?_eq_some_iff.mp t3).1
      have u1 : TRep c_Teller (S5.set g (.dK (dk v l))) A (turnS T go) := t1.of fun p o => List.getElem?_set_ne fun z => hgo' (P := turnS T go) rfl (by rw [z]; exact o)
      have u2 : Fr (own A T) 0 S (S5.set g (.dK (dk v l))) := by
        have a1 : Fr (own A T) 0 S S4 := by
          rw [hS4]
          exact q2.set _ (.inr hg) hg0
        exact ((a1.trans t2 (fun i o _ => o)).set _ (.inr hg) hg0).mono (by omega)
      have u3 : cellL (S5.set g (.dK (dk v l))) f = some ((turnRows T go).map dRow) := by
        have : cellL (S5.set g (.dK (dk v l))) f = cellL S5 f := by
          unfold cellL
          rw [List.getElem?_set_ne (by omega)]
        rw [this, t4, q3]
        rfl
      obtain ⟨d, S6, e6, f6, rfl, c6, g6⟩ := sorted_rows_ok (wf := wf) (n := n + 3) (R := turnRows T go) hw (u2.pos h0) hf0 u3 (fun r hr => by
        obtain ⟨x, hx, hr⟩ := List.mem_flatMap.mp hr
        obtain ⟨m, hm, hr⟩ := List.mem_flatMap.mp hr
        obtain ⟨e, he, rfl⟩ := List.mem_map.mp hr
        have hxi := h.ok.sub x hx
        have hmi := (mem_pairs.mp hm).1
        have hPl : ∀ k ∈ T.ids, PlB (wayOf T go k).2 := fun k hk => by
          unfold wayOf
          cases e : go k with
          | none => exact (h.ok.th k hk).p
          | some p => exact hgoP k p e
        obtain ⟨y1, y2, y3, y4⟩ := hPl x hxi
        obtain ⟨m1, m2, m3, m4⟩ := hPl m hmi
        obtain ⟨p1, p2, p3, p4⟩ := (h.ok.th x hxi).p
        obtain ⟨z1, z2, z3, z4⟩ := (h.ok.th m hmi).p
        have sx := h.ok.si x hx
        refine ⟨e.1, rfl, ch_QB (w := wayOf T go x) (o := wayOf T go m) (sm_of ⟨p1, p2⟩ ⟨z1, z2⟩) (sm_of ⟨y1, y2⟩ ⟨m1, m2⟩) (sm_of ⟨p3, p4⟩ ⟨z3, z4⟩) (sm_of ⟨y3, y4⟩ ⟨m3, m4⟩) ⟨by have := sx.far; omega, by have := sx.far; omega⟩ ⟨by have := sx.far; have := sx.slack; omega, by have := sx.far; have := sx.slack; omega⟩ e he⟩) (by
        have := turnRows_len T go h.ok T.hs
        unfold turnRows
        omega)
      refine to_ret ?_
      have ht : tupleD S6 [.ref f6] = some (.tup ((sortR (turnRows T go)).map dRow), S6) := by
        simp [tupleD, asSeq_ref c6]
      simp [e6, ht]
      exact ⟨u1.go g6, (u2.trans (g6.fr (O := own A T)) (fun i o _ => o)).mono (by omega)⟩
theorem turn_ok {wf n : Nat} {S : Sto} {A : TA} {T : TS} {ms : List (Int × (Int × Int))} (hw : 5000000 ≤ wf) (h : TRep c_Teller S A T) (h0 : 0 < S.length) (hp : ∀ m ∈ ms, PlB m.2) (hl : ms.length ≤ 100000) :
    (run F wf (n + 7) i_Teller_turn [.ref A.i, .tup (ms.map dMv)] S).TX
      (fun d S' => turnExc T ms [] = none ∧ d = .tup ((sortR (turnRows T (goalF ms))).map dRow) ∧ TRep c_Teller S' A (turnS T (goalF ms)) ∧ Fr (own A T) 0 S S')
      (fun c S' => ((turnExc T ms [] = some true ∧ c = c_NoThing) ∨ (turnExc T ms [] = some false ∧ c = c_BadMove)) ∧ TRep c_Teller S' A T ∧ Go 0 S S') := by
  refine run_TX h_Teller_turn rfl (tx_nm ?_)
  simp [f_Teller_turn]
  obtain ⟨g, hg⟩ : ∃ g, g = S.length := ⟨_, rfl⟩
  rw [← hg]
  have h1 : TRep c_Teller (S ++ [.dK []]) A T := h.of fun p o => List.getElem?_append_left (h.own_lt o).2
  obtain ⟨J, hJ⟩ : ∃ J : List (Int × (Int × Int)) → NT.Env → Sto → Prop, ∀ pre ρ S', J pre ρ S' ↔ (∃ x3 x4, ρ = [some (.ref A.i), some (.tup (ms.map dMv)), some (.ref g), x3, x4, none, none, none, none] ∧ TRep c_Teller S' A T ∧ Go 0 S S' ∧ turnExc T pre [] = none ∧ (∀ m ∈ pre, m.1 ∈ T.ids) ∧ ∃ gids, Goals S' g pre gids ∧ gids.length ≤ pre.length) := ⟨_, fun _ _ _ => Iff.rfl⟩
  refine tx_forP (g := dMv) (xs := ms) (S1 := S ++ [.dK []]) (by simp) J ?_ ?_ ?_
  · refine (hJ _ _ _).mpr ⟨_, _, rfl, h1, Go.push _ h0, rfl, by simp, [], ⟨List.Pairwise.nil, by simp, ?_⟩, by simp⟩
    rw [hg]
    exact DK.new
  · intro pre m post ρ S1 ex hj
    obtain ⟨x3, x4, rfl, r1, g1, e1, a1, gids, G, gl⟩ := (hJ _ _ _).mp hj
    have hx : turnExc T ms [] = turnExc T (m :: post) (pre.map (·.1)) := by
      rw [ex, turnExc_app pre (m :: post) [] e1]
      simp
    refine ⟨_, rfl, tx_exp ?_⟩
    by_cases hm : m.1 ∈ T.ids
    · simp [r1.ins_of, need_ok r1 hm]
      refine tx_ite ?_
      simp [G.dk.in]
      refine ⟨fun hin => ?_, fun hin => ?_⟩
      · refine tx_raise ⟨.inr ⟨?_, rfl⟩, r1, g1⟩
        rw [hx, turnExc, if_neg (by simpa using hm), if_pos ((G.mem _).mp hin)]
      · have hgl : gids.length ≤ 100000 := by
          have := congrArg List.length ex
          simp at this
          omega
        obtain ⟨c, s1, d1⟩ := G.dk.set (by omega) m.1 (dP m.2)
        refine tx_setI ?_
        simp [s1]
        have hgA : ∀ p, own A T p → g ≠ p := fun p o => by
          have := (h.own_lt o).2
          omega
        refine tx_nil ((hJ _ _ _).mpr ⟨_, _, rfl, r1.of fun p o => List.getElem?_set_ne (hgA p o), Go.set _ S g1 (by omega) (by omega), ?_, ?_, addS m.1 gids, ⟨G.up.add, fun n => ?_, d1.congr fun n hn => ?_⟩, ?_⟩)
        · rw [turnExc_app pre [m] [] e1]
          have : ¬ m.1 ∈ [] ++ pre.map (·.1) := by simpa using fun z => hin ((G.mem _).mpr z)
          rw [turnExc, if_neg (by simpa using hm), if_neg this, turnExc]
        · intro w hw'
          rcases List.mem_append.mp hw' with hw' | hw'
          · exact a1 w hw'
          · rw [List.mem_singleton.mp hw']
            exact hm
        · rw [mem_addS, G.mem, List.map_append, List.mem_append]
          simp [or_comm]
        · have hmn : goalF pre m.1 = none := goalF_none.mpr fun z => hin ((G.mem _).mpr z)
          unfold updF
          rw [goalF_app]
          by_cases e : n = m.1
          · subst e
            simp [hmn]
          · rw [if_neg e]
            have : ¬ m.1 = n := fun z => e z.symm
            simp [this]
        · have := addS_len (n := m.1) (ids := gids)
          simp
          omega
    · simp [r1.ins_of, need_exc r1 hm]
      refine ⟨?_, r1, g1⟩
      rw [hx, turnExc, if_pos hm]
  · intro ρ S1 hj
    obtain ⟨x3, x4, rfl, r1, g1, e1, a1, gids, G, gl⟩ := (hJ _ _ _).mp hj
    refine RS.To.tx ?_
    refine (turn_tail (n := n) (x3 := x3) (x4 := x4) hw h h0 (by omega) r1 g1 G hp a1).mono fun f S' z => ?_
    obtain ⟨d, rfl, rfl, z1, z2⟩ := z
    exact ⟨e1, rfl, z1, z2⟩
end NT.K
namespace NT.K
open PySem L2 NT
def cen : Int × Int := (100, 100)
/-- a thing of a board of this law -/
structure BT (w : Int → Int) (swing : Int) (t : Thing) : Prop where
  room : t.room = 0
  g : t.g = none
  far : w t.n ≤ cheb t.p cen ∧ cheb t.p cen ≤ w t.n + swing
  p : 100 ≤ t.p.1 ∧ t.p.1 ≤ 160 ∧ 100 ≤ t.p.2 ∧ t.p.2 ≤ 160
theorem lawboard_ok {wf n : Nat} {ns : List Int} {S : Sto} {R : Nat} {l : List Int} {w : Int → Int} {swing : Int} (hc : S[R]? = some (.dK (dk (fun n => .int (w n)) l))) (hR : R ≠ 0) (hl : l.length ≤ 10) (hw : ∀ n ∈ l, 5 ≤ w n ∧ w n ≤ 43) (hs : 0 ≤ swing ∧ swing ≤ 8) (ht : Tn 20 S) :
    (run F wf (n + 3) i__law_board [.wl (ns.map .int), .ref 0, .ref R, .int swing] S).To fun d S' => ∃ b : List Thing, d = dB b ∧ b.map (·.n) = l ∧ (∀ t ∈ b, BT w swing t) ∧ Go 20 S S' := by
  have hRl : R < S.length := (List.getElem?_eq_some_iff.mp hc).1
  obtain ⟨i0, hi0⟩ : ∃ i0, i0 = S.length := ⟨_, rfl⟩
  refine run_To h__law_board rfl (to_nm ?_)
  simp [f__law_board]
  rw [← hi0]
  have hc1 : (S ++ [Cell.lst []])[R]? = some (.dK (dk (fun n => .int (w n)) l)) := by rw [List.getElem?_append_left hRl]; exact hc
  refine to_lk (i := R) (S0 := S ++ [Cell.lst []]) (kvs := dk (fun n => .int (w n)) l) (by simp) hc1 ?_
  have hb : ((S ++ [Cell.lst []]).set R (.frz (.dK (dk (fun n => .int (w n)) l))))[R]? = some (.frz (.dK (dk (fun n => .int (w n)) l))) := set_at hc1
  obtain ⟨S1, hS1⟩ : ∃ S1, S1 = (S ++ [Cell.lst []]).set R (.frz (.dK (dk (fun n => .int (w n)) l))) := ⟨_, rfl⟩
  rw [← hS1] at hb ⊢
  have hlS1 : S1.length = i0 + 1 := by rw [hS1, hi0]; simp
  have hcl : cellL S1 i0 = some [] := by
    rw [hS1]
    unfold cellL
    rw [List.getElem?_set_ne (by omega)]
    simp [hi0]
  have t1 : Tn 20 S1 := by
    obtain ⟨zs, e, q⟩ := ht
    refine ⟨zs, ?_, q⟩
    rw [hS1, List.getElem?_set_ne hR, List.getElem?_append_left (by omega)]
    exact e
  obtain ⟨B, hB⟩ : ∃ B, B = S.set R (.frz (.dK (dk (fun n => .int (w n)) l))) := ⟨_, rfl⟩
  have hS1B : S1 = B ++ [.lst []] := by rw [hS1, hB, List.set_append_left _ _ hRl]
  have hBl : B.length = i0 := by rw [hB, hi0]; simp
  have hg0 : Go 0 B S1 := by rw [hS1B]; exact Go.push _ (by omega)
  have tB : Tn 20 B := by
    obtain ⟨zs, e, q⟩ := ht
    exact ⟨zs, by rw [hB, List.getElem?_set_ne hR]; exact e, q⟩
  have hkeys : keysF S1 (.ref R) = some (l.map D.int) := by
    simp [keysF, hb, dk, List.map_map, keyD, Function.comp_def]
  obtain ⟨J, hJ⟩ : ∃ J : List Int → NT.Env → Sto → Prop, ∀ pre ρ S', J pre ρ S' ↔ (∃ (b : List Thing) (x5 x6 : Option D), ρ = [some (.wl (ns.map .int)), some (.ref 0), some (.ref R), some (.int swing), some (.ref i0), x5, x6] ∧ b.map (·.n) = pre ∧ (∀ t ∈ b, BT w swing t) ∧ cellL S' i0 = some (b.map dT) ∧ S'[R]? = some (.frz (.dK (dk (fun n => .int (w n)) l))) ∧ Go (2 * pre.length) B S') := ⟨_, fun _ _ _ => Iff.rfl⟩
  refine to_forP (g := D.int) (xs := l) (S1 := S1) (by simp [hkeys]) J ((hJ _ _ _).mpr ⟨[], _, _, rfl, rfl, by simp, hcl, hb, hg0.mono (by omega)⟩) ?_ ?_
  · intro pre x post ρ S2 ex hj
    obtain ⟨b, x5, x6, rfl, hbn, hbt, hcb, hfr, hg⟩ := (hJ _ _ _).mp hj
    have hlen : pre.length < 10 := by
      have := congrArg List.length ex
      simp at this
      omega
    have hlb : b.length = pre.length := by rw [← hbn]; simp
    have hx : x ∈ l := by rw [ex]; simp
    have hwx := hw x hx
    have t2 := hg.town (20 - 2 * pre.length) (tB.mono (by omega))
    obtain ⟨d, S3, e1, a, rfl, ha0, ha1, g1⟩ := draw_ok (wf := wf) (n := n + 1) (ns := ns) (m := swing + 1) (S := S2) (by omega) (t2.mono (by omega))
    have t3 := g1.town (1) (t2.mono (by omega))
    obtain ⟨d, S4, e2, c, rfl, hc0, hc1', g2⟩ := draw_ok (wf := wf) (n := n + 1) (ns := ns) (m := 2) (S := S3) (by omega) (t3.mono (by omega))
    have hdx : idxD S2 [.ref R, .int x] = some (.int (w x), S2) := by
      simp [idxD, dGet, hfr, unl, keyOf, look_dk, hx]
    refine ⟨_, rfl, to_nm ?_⟩
    have hi2 : i0 < S2.length := cell_lt hcb
    have cm : CMul c (w x + a) := cmulL (by omega) (by omega)
    have hc3 : cellL S3 i0 = some (b.map dT) := cell_old g1 (by omega) hcb
    have hc4 : cellL S4 i0 = some (b.map dT) := cell_old g2 (by omega) hc3
    have hf4 : S4[R]? = some (.frz (.dK (dk (fun n => .int (w n)) l))) := by
      have := g1.len
      rw [g2.old R hR (by omega), g1.old R hR (by omega)]
      exact hfr
    have hlb2 : b.length < 16777216 := by omega
    simp [hdx, e1]
    refine to_exp ?_
    simp [e2, cm, Mth.ok, hc3, hc4, appendD, hlb2]
    obtain ⟨t, htd⟩ : ∃ t : Thing, t = ⟨x, (100 + (w x + a), 100 + c * (w x + a)), 0, none⟩ := ⟨_, rfl⟩
    have hcase : c = 0 ∨ c = 1 := by omega
    have hbt2 : BT w swing t := by
      rw [htd]
      refine ⟨rfl, rfl, ?_, ?_⟩
      · rcases hcase with rfl | rfl <;> (simp only [cheb, cen]; omega)
      · rcases hcase with rfl | rfl <;> (simp only; omega)
    refine to_nil ?_
    refine (hJ (pre ++ [x]) _ _).mpr ⟨b ++ [t], _, _, rfl, by rw [List.map_append, hbn, htd]; rfl, fun u hu => ?_, ?_, ?_, ?_⟩
    · rcases List.mem_append.mp hu with hu | hu
      · exact hbt u hu
      · rw [List.mem_singleton.mp hu]
        exact hbt2
    · rw [cell_set (cell_lt hc4), htd]
      simp [dT, dP, dG]
    · rw [List.getElem?_set_ne (by omega)]
      exact hf4
    · exact Go.set _ B (((hg.trans g1).trans g2).mono (by simp; omega)) (by omega) (by omega)
  · intro ρ S2 hj
    obtain ⟨b, x5, x6, rfl, hbn, hbt, hcb, hfr, hg⟩ := (hJ _ _ _).mp hj
    rw [hB] at hg
    obtain ⟨g1, _⟩ := go_unlk hc hR hg
    have hi2 : i0 < S2.length := cell_lt hcb
    refine to_nil ⟨hfr, to_ret ?_⟩
    have hcb2 : cellL (S2.set R (.dK (dk (fun n => .int (w n)) l))) i0 = some (b.map dT) := by
      unfold cellL
      rw [List.getElem?_set_ne (by omega)]
      exact hcb
    have ht : tupleD (S2.set R (.dK (dk (fun n => .int (w n)) l))) [.ref i0] = some (.tup (b.map dT), S2.set R (.dK (dk (fun n => .int (w n)) l))) := by
      simp [tupleD, asSeq_ref hcb2]
    simp [ht]
    exact ⟨b, rfl, hbn, hbt, g1.mono (by omega)⟩
end NT.K
namespace NT.K
open PySem L2 NT
/-- how far, by number -/
def wOf (b : List Thing) (n : Int) : Int := ((b.find? fun t => decide (t.n = n)).map fun t => cheb t.p cen).getD 0
theorem wOf_eq {b : List Thing} (nd : (b.map (·.n)).Nodup) {t : Thing} (ht : t ∈ b) : wOf b t.n = cheb t.p cen := by
  induction b with
  | nil => cases ht
  | cons u b ih =>
    obtain ⟨h1, h2⟩ := List.nodup_cons.mp (by simpa using nd : (u.n :: b.map (·.n)).Nodup)
    unfold wOf
    rcases List.mem_cons.mp ht with rfl | ht
    · simp
    · have hne : u.n ≠ t.n := fun e => h1 (e ▸ List.mem_map.mpr ⟨t, ht, rfl⟩)
      simp only [List.find?_cons, hne, decide_false]
      exact ih h2 ht
theorem board_dict {S : Sto} {b : List Thing} (nd : (b.map (·.n)).Nodup) : dictD S [.lst (b.map fun t => D.tup [.int t.n, .int (cheb t.p cen)])] = some (.ref S.length, S ++ [.dK (dk (fun n => .int (wOf b n)) (b.map (·.n)))]) := by
  have := dict_kvi (S := S) (fun t : Thing => t.n) (fun t => .int (cheb t.p cen)) nd
  rw [this]
  have e : kvi (fun t : Thing => t.n) (fun t => D.int (cheb t.p cen)) b = dk (fun n => .int (wOf b n)) (b.map (·.n)) := by
    unfold kvi dk
    rw [List.map_map]
    refine List.map_congr_left fun t ht => ?_
    simp only [Function.comp_def]
    rw [wOf_eq nd ht]
  rw [e]
theorem max_lst {S : Sto} {ns : List Int} (h : ns ≠ []) : ∃ m ∈ ns, maxD S [.lst (ns.map D.int)] = some (.int m, S) ∧ ∀ y ∈ ns, y ≤ m := by
  cases ns with
  | nil => exact absurd rfl h
  | cons x xs =>
    refine ⟨xs.foldl max x, foldl_max_mem xs x, ?_, fun y hy => ?_⟩
    · simp only [maxD, asSeq_lst, asInts_map]
      rfl
    · obtain ⟨b1, b2⟩ := foldl_max_ge xs x
      rcases List.mem_cons.mp hy with rfl | h
      · exact b1
      · exact b2 y h
theorem min_lst {S : Sto} {ns : List Int} (h : ns ≠ []) : ∃ m ∈ ns, minD S [.lst (ns.map D.int)] = some (.int m, S) ∧ ∀ y ∈ ns, m ≤ y := by
  cases ns with
  | nil => exact absurd rfl h
  | cons x xs =>
    refine ⟨xs.foldl min x, foldl_min_mem xs x, ?_, fun y hy => ?_⟩
    · simp only [minD, asSeq_lst, asInts_map]
      rfl
    · obtain ⟨b1, b2⟩ := foldl_min_le xs x
      rcases List.mem_cons.mp hy with rfl | h
      · exact b1
      · exact b2 y h
theorem keeps_ok {wf n : Nat} {S : Sto} {b : List Thing} {k0 : List Int} {most slack : Int} (h0 : 0 < S.length) (nd : (b.map (·.n)).Nodup) (hl : b.length ≤ 1000) (hm : 1 ≤ most) (hb : b ≠ []) :
    (run F wf (n + 2) i__law_keeps [dB b, iL k0, iL (chosenL b cen k0 most slack), .int slack] S).To fun d S' => d = .bl true ∧ Go 0 S S' := by
  obtain ⟨r, hr⟩ : ∃ r, r = chosenL b cen k0 most slack := ⟨_, rfl⟩
  rw [← hr]
  obtain ⟨l, hl'⟩ : ∃ l, l = b.map (·.n) := ⟨_, rfl⟩
  obtain ⟨i1, hi1⟩ : ∃ i, i = S.length := ⟨_, rfl⟩
  obtain ⟨S1, hS1⟩ : ∃ S1, S1 = S ++ [Cell.dK (dk (fun n => .int (wOf b n)) l)] := ⟨_, rfl⟩
  have hz : b.length ≤ 16777216 := by omega
  have hll : l.length ≤ 16777216 := by rw [hl']; simpa using hz
  have c1 : S1[i1]? = some (.dK (dk (fun n => .int (wOf b n)) l)) := by rw [hS1, hi1]; simp
  have ndl : l.Nodup := by rw [hl']; exact nd
  refine run_To h__law_keeps rfl (to_nm ?_)
  simp [f__law_keeps, dB, hz]
  rw [lcD_all dT (fun t => D.tup [.int t.n, .int (cheb t.p cen)]) gok_nil _ (fun t ht => by
    have := distance_ok (wf := wf) (n := n) (S := S) (p := t.p) (q := cen)
    have this' : run F wf (n + 1) i_distance [dP t.p, .tup [.int 100, .int 100]] S = .ok (.int (cheb t.p cen)) S := this
    simp [dT, this'])]
  have bd := board_dict (S := S) nd
  rw [← hl', ← hS1, ← hi1] at bd
  simp [bd]
  have kin : ∀ (x : Int) (k : List Int) (S : Sto) (g : Bool → Bool), inG g S [.int x, iL k] = some (.bl (g (decide (x ∈ k))), S) := fun x k S g => by
    have := inB_int (S := S) (c := iL k) (b := false) (x := x) (ns := k) rfl rfl
    simp only [inG, this, Option.map_some]
  obtain ⟨v2, hv2⟩ : ∃ v2 : Int → Int, v2 = fun n => wOf b n - (if n ∈ k0 then slack else 0) := ⟨_, rfl⟩
  have d1 : DR (S1.set i1 (.frz (.dK (dk (fun n => .int (wOf b n)) l)))) i1 l (fun n => .int (wOf b n)) := by
    unfold DR
    rw [set_at c1]
    rfl
  refine to_nm ?_
  have e1 := lk_row (cf := run F wf (n + 1)) (k := 7) (e := .var 4) (c := .tup (.cons (.var 7) (.cons (.bin .sub (.idx (.var 4) (.var 7)) (.ite (.cmp .mem (.var 7) (.var 1)) (.var 3) (.lit (.int 0)))) .nil)))
    (ρ := [some (.tup (b.map dT)), some (iL k0), some (iL r), some (.int slack), some (.ref i1), none, none, none, none]) (g := fun n => D.tup [.int n, .int (v2 n)]) (by simp) c1 (by simp) hll (by simp) (fun x hx => by
      by_cases q : x ∈ k0
      · simp [d1.idx hx, kin, q, hv2]
      · simp [d1.idx hx, kin, q, hv2])
  obtain ⟨K, hK⟩ : ∃ K, K = E.lk (.var 4) (.comp (.nm 7) (.keys (.var 4)) .no (.tup (.cons (.var 7) (.cons (.bin .sub (.idx (.var 4) (.var 7)) (.ite (.cmp .mem (.var 7) (.var 1)) (.var 3) (.lit (.int 0)))) .nil))) [7]) := ⟨_, rfl⟩
  rw [← hK] at e1 ⊢
  obtain ⟨i2, hi2⟩ : ∃ i, i = S1.length := ⟨_, rfl⟩
  obtain ⟨S2, hS2⟩ : ∃ S2, S2 = S1 ++ [Cell.dK (dk (fun n => .int (v2 n)) l)] := ⟨_, rfl⟩
  have bd2 := dict_dk (S := S1) (fun n => .int (v2 n)) ndl
  rw [← hS2, ← hi2] at bd2
  simp [e1, bd2]
  have hl1 : S1.length = i1 + 1 := by rw [hS1, hi1]; simp
  have c1' : S2[i1]? = some (.dK (dk (fun n => .int (wOf b n)) l)) := by
    rw [hS2, List.getElem?_append_left (by omega)]
    exact c1
  have c2 : S2[i2]? = some (.dK (dk (fun n => .int (v2 n)) l)) := by rw [hS2, hi2]; simp
  refine to_lk (i := i1) (S0 := S2) (kvs := dk (fun n => .int (wOf b n)) l) (by simp) c1' ?_
  have d2 : DR (S2.set i1 (.frz (.dK (dk (fun n => .int (wOf b n)) l)))) i2 l (fun n => .int (v2 n)) := by
    unfold DR
    rw [List.getElem?_set_ne (by omega), c2]
    rfl
  have e3 := lk_filt (cf := run F wf (n + 1)) (k := 7) (e := .var 4) (q := .cmp .nmem (.var 7) (.var 2)) (c := .idx (.var 5) (.var 7)) (ρ := [some (.tup (b.map dT)), some (iL k0), some (iL r), some (.int slack), some (.ref i1), some (.ref i2), none, none, none]) (g := fun n => D.int (v2 n)) (p := fun n => !decide (n ∈ r)) rfl c1' (by simp) hll (by simp) (fun x hx => by
      by_cases q : x ∈ r <;> simp [kin, q]) (fun x hx _ => by simp [d2.idx hx])
  refine to_nm ?_
  rw [e3, To_ok]
  simp only [List.set_cons_succ, List.set_cons_zero]
  refine to_nil ⟨set_at c1', ?_⟩
  have hun : (S2.set i1 (.frz (.dK (dk (fun n => .int (wOf b n)) l)))).set i1 (.dK (dk (fun n => .int (wOf b n)) l)) = S2 := by
    rw [List.set_set]
    obtain ⟨hlt, e⟩ := List.getElem?_eq_some_iff.mp c1'
    rw [← e]
    exact List.set_getElem_self hlt
  rw [hun]
  obtain ⟨out, hout⟩ : ∃ out, out = (l.filter fun n => !decide (n ∈ r)).map v2 := ⟨_, rfl⟩
  have eo : (l.filter fun n => !decide (n ∈ r)).map (fun n => D.int (v2 n)) = out.map D.int := by rw [hout, List.map_map]; rfl
  rw [eo]
  have go2 : Go 0 S S2 := by
    rw [hS2, hS1, List.append_assoc]
    exact ((Fr.refl (fun _ => False) S).app _ h0).go
  refine to_ret ?_
  by_cases ho : out = []
  · simp [ho]
    exact go2
  · have hrl : ∀ n ∈ r, n ∈ l := fun n hn => by
      rw [hl']
      rw [hr] at hn
      exact chosen_sub hn
    have hrne : r ≠ [] := fun z => by
      have := chosen_length (ts := b) (p := cen) (kept := k0) (most := most) (slack := slack)
      rw [← hr, z] at this
      have hb0 : 0 < b.length := List.length_pos_iff.mpr hb
      simp at this
      omega
    have d2' : DR S2 i2 l (fun n => .int (v2 n)) := by
      unfold DR
      rw [c2]
      rfl
    have hrz : r.length ≤ 16777216 := by
      have := chosen_len b cen k0 most slack
      rw [← hr] at this
      omega
    obtain ⟨mx, hmx, emx, _⟩ := max_lst (S := S2) (ns := r.map v2) (by simpa using hrne)
    obtain ⟨mn, hmn, emn, _⟩ := min_lst (S := S2) (ns := out) ho
    have hle : mx ≤ mn := by
      obtain ⟨x, hx, rfl⟩ := List.mem_map.mp hmx
      rw [hout] at hmn
      obtain ⟨y, hy, rfl⟩ := List.mem_map.mp hmn
      obtain ⟨hy1, hy2⟩ := List.mem_filter.mp hy
      have hxl := hrl x hx
      rw [hl'] at hxl hy1
      obtain ⟨t, ht, rfl⟩ := List.mem_map.mp hxl
      obtain ⟨u, hu, rfl⟩ := List.mem_map.mp hy1
      have := chosen_le (p := cen) (kept := k0) (most := most) (slack := slack) nd ht hu (by rw [← hr]; exact hx) (by rw [← hr]; simpa using hy2)
      simp only [chRow, prLe] at this
      have := of_decide_eq_true this
      rw [hv2]
      simp only
      rw [wOf_eq nd ht, wOf_eq nd hu]
      omega
    have em2 : r.map (fun n => D.int (v2 n)) = (r.map v2).map D.int := by rw [List.map_map]; rfl
    have hrt : iL r = .tup (r.map .int) := rfl
    simp [ho, hrt, hrz]
    rw [lcD_all D.int (fun n => .int (v2 n)) gok_nil _ (fun x hx => by simp [d2'.idx (hrl x hx)]), em2]
    simp only [rbind_ok]
    rw [emx]
    simp [emn, hle, go2]
end NT.K
namespace NT.K
open PySem L2 NT
theorem go_fr {O : Nat → Prop} {c : Nat} {S0 S S' : Sto} (g : Go c S0 S) (f : Fr O 0 S S') (h : ∀ p, O p → S0.length ≤ p) : Go c S0 S' :=
  ⟨Nat.le_trans g.len f.len, fun i h0 hi => (f.old i h0 (fun z => by have := h i z; omega) (Nat.lt_of_lt_of_le hi g.len)).trans (g.old i h0 hi), fun k t => f.town k ((g.town k t).mono (by omega))⟩
/-- a teller made after S0 -/
structure WT (S0 S : Sto) (A : TA) (T : TS) : Prop where
  rep : TRep c_Teller S A T
  go : Go 0 S0 S
  ow : ∀ p, own A T p → S0.length ≤ p
theorem WT.act {S0 S S' : Sto} {A : TA} {T T' : TS} (w : WT S0 S A T) (a : Act A T T' S S') : ∃ A', A'.i = A.i ∧ WT S0 S' A' T' := by
  obtain ⟨A', e, r, f, o⟩ := a
  refine ⟨A', e, r, go_fr w.go f w.ow, fun p hp => ?_⟩
  rcases o p hp with h | h
  · exact w.ow p h
  · have := w.go.len
    omega
/-- how the things stand -/
structure St40 (T : TS) (hs : List Int) (done : List Int) : Prop where
  doors : T.doors = []
  hs : T.hs = hs
  ids : ∀ n, n ∈ T.ids ↔ n = 50 ∨ n ∈ done
  th : ∀ n ∈ T.ids, (T.th n).room = 0 ∧ (T.th n).g = none
  c50 : (T.th 50).p = cen
  far : ∀ n ∈ done, cheb cen (T.th n).p ≤ 60
theorem rows_none {T : TS} (h : T.hs = []) (t : Option Rat) : T.rows t = [] := by
  unfold TS.rows
  rw [h]
  rfl
theorem reach00 : (0 : Int) ∈ reachL [] 0 0 := mem_reachL.mpr ⟨by omega, 0, by omega, Dst.self⟩
theorem chs_none {T : TS} {go : Int → Option (Int × Int)} {x m : Int} (ok : (T.si x).Ok) (hk : T.kn x m = true) (he : cheb (wayOf T go x).2 (wayOf T go m).2 ≤ (T.si x).far + (T.si x).slack) : chs T go x m = [] := by
  have hl := ch_end (T.kn x m) (w := wayOf T go x) (o := wayOf T go m) (far := (T.si x).far) (slack := (T.si x).slack) ok.far.1 ok.slack.1
  have ha := ch_alt (k := T.kn x m) (w := wayOf T go x) (o := wayOf T go m) (far := (T.si x).far) (slack := (T.si x).slack)
  unfold chs
  rw [hk] at hl ha ⊢
  have hlen : (chR true (wayOf T go x) (wayOf T go m) (T.si x).far (T.si x).slack).length ≤ 1 := by
    unfold chR
    simp only [if_true]
    exact left_len
  revert hl ha hlen
  cases chR true (wayOf T go x) (wayOf T go m) (T.si x).far (T.si x).slack with
  | nil => intros; rfl
  | cons e es =>
    intro hl ha hlen
    cases es with
    | nil =>
      have := ha.1
      simp only [lastK] at hl
      rw [this] at hl
      simp [he] at hl
    | cons e2 es => simp at hlen
theorem st_come {T : TS} {done : List Int} {t : Thing} (s : St40 T [] done) (hn : t.n ≠ 50) (hp : cheb cen t.p ≤ 60) (hd : t.n ∉ done) : St40 (TS.comeS T t.n ⟨t.p, 0, none⟩).settle [] (done ++ [t.n]) := by
  refine ⟨s.doors, s.hs, fun n => ?_, fun n hn' => ?_, ?_, fun n h => ?_⟩
  · show n ∈ addS t.n T.ids ↔ _
    rw [mem_addS, s.ids, List.mem_append, List.mem_singleton]
    constructor
    · rintro (h | h | h)
      · exact .inr (.inr h)
      · exact .inl h
      · exact .inr (.inl h)
    · rintro (h | h | h)
      · exact .inr (.inl h)
      · exact .inr (.inr h)
      · exact .inl h
  · show (updF T.th t.n ⟨t.p, 0, none⟩ n).room = 0 ∧ (updF T.th t.n ⟨t.p, 0, none⟩ n).g = none
    unfold updF
    split
    · exact ⟨rfl, rfl⟩
    · rename_i hne
      have : n ∈ addS t.n T.ids := hn'
      rcases mem_addS.mp this with h | h
      · exact absurd h hne
      · exact s.th n h
  · show (updF T.th t.n ⟨t.p, 0, none⟩ 50).p = cen
    unfold updF
    rw [if_neg (Ne.symm hn)]
    exact s.c50
  · show cheb cen (updF T.th t.n ⟨t.p, 0, none⟩ n).p ≤ 60
    unfold updF
    split
    · exact hp
    · rename_i hne
      rcases List.mem_append.mp h with h | h
      · exact s.far n h
      · exact absurd (List.mem_singleton.mp h) hne
structure K40 (T : TS) (done : List Int) (swing : Int) : Prop where
  st : St40 T [50] done
  kn : ∀ n ∈ done, T.kn 50 n = true
  si : T.si 50 = ⟨60, swing, 0⟩
theorem st_listen {T : TS} {done : List Int} {swing : Int} (s : St40 T [] done) (hs : 0 ≤ swing) (h50 : 50 ∉ done) : K40 (TS.listenS T 50 ⟨60, swing, 0⟩).settle done swing := by
  have e1 : (TS.listenS T 50 ⟨60, swing, 0⟩).hs = [50] := by
    show addS 50 T.hs = [50]
    rw [s.hs]
    simp [addS, srt]
  have e2 : (TS.listenS T 50 ⟨60, swing, 0⟩).si 50 = ⟨60, swing, 0⟩ := by
    show updF T.si 50 ⟨60, swing, 0⟩ 50 = _
    unfold updF
    rw [if_pos rfl]
  refine ⟨⟨s.doors, e1, s.ids, s.th, s.c50, s.far⟩, fun n hn => ?_, e2⟩
  have hne : n ≠ 50 := fun z => h50 (z ▸ hn)
  have hid : n ∈ T.ids := (s.ids n).mpr (.inr hn)
  have h5 : (50 : Int) ∈ T.ids := (s.ids 50).mpr (.inl rfl)
  show (if 50 ∈ (TS.listenS T 50 ⟨60, swing, 0⟩).hs ∧ n ∈ T.ids ∧ n ≠ 50 then (TS.listenS T 50 ⟨60, swing, 0⟩).fits 50 n else T.kn 50 n) = true
  rw [if_pos ⟨by rw [e1]; simp, hid, hne⟩]
  unfold TS.fits TS.hears TS.apart
  rw [e2]
  have hr1 : ((TS.listenS T 50 ⟨60, swing, 0⟩).th n).room = 0 := (s.th n hid).1
  have hr2 : ((TS.listenS T 50 ⟨60, swing, 0⟩).th 50).room = 0 := (s.th 50 h5).1
  have hdo : (TS.listenS T 50 ⟨60, swing, 0⟩).doors = [] := s.doors
  have hc : ((TS.listenS T 50 ⟨60, swing, 0⟩).th 50).p = cen := s.c50
  have hf : cheb cen ((TS.listenS T 50 ⟨60, swing, 0⟩).th n).p ≤ 60 := s.far n hn
  rw [hr1, hr2, hdo, hc, decide_eq_true reach00]
  have : cheb cen ((TS.listenS T 50 ⟨60, swing, 0⟩).th n).p ≤ 60 + (if (TS.listenS T 50 ⟨60, swing, 0⟩).kn 50 n = true then swing else 0) := by split <;> omega
  simp [this]
theorem K40.knows {T : TS} {done : List Int} {swing : Int} (k : K40 T done swing) (ok : T.Ok) (nd : done.Nodup) : T.knows 50 = srt done := by
  have u : Up (T.knows 50) := ok.ids.filter _
  refine u.uniq (up_srt nd) fun n => ?_
  rw [mem_knows ok]
  unfold srt
  rw [List.mem_mergeSort]
  constructor
  · intro h
    obtain ⟨_, h2, h3⟩ := ok.kn 50 n h
    rcases (k.st.ids n).mp h2 with z | z
    · exact absurd z h3
    · exact z
  · exact k.kn n
theorem turnExc_ok {T : TS} : ∀ {ms : List (Int × (Int × Int))} {seen : List Int}, (∀ m ∈ ms, m.1 ∈ T.ids ∧ m.1 ∉ seen) → (ms.map (·.1)).Nodup → turnExc T ms seen = none
  | [], _, _, _ => rfl
  | m :: ms, seen, h, nd => by
    obtain ⟨h1, h2⟩ := List.nodup_cons.mp (by simpa using nd : (m.1 :: ms.map (·.1)).Nodup)
    rw [turnExc, if_neg (by simpa using (h m List.mem_cons_self).1), if_neg (h m List.mem_cons_self).2]
    refine turnExc_ok (fun x hx => ⟨(h x (List.mem_cons_of_mem _ hx)).1, fun z => ?_⟩) h2
    rcases List.mem_append.mp z with z | z
    · exact (h x (List.mem_cons_of_mem _ hx)).2 z
    · exact h1 (List.mem_map.mpr ⟨x, hx, List.mem_singleton.mp z⟩)
theorem K40.chs {T : TS} {done : List Int} {swing : Int} (k : K40 T done swing) (ok : T.Ok) (hs : 0 ≤ swing) {ms : List (Int × (Int × Int))} (hm : ∀ m ∈ ms, m.1 ∈ done ∧ cheb cen m.2 ≤ 60) (h50 : 50 ∉ done) {n : Int} (hn : n ∈ done) : chs T (goalF ms) 50 n = [] := by
  have h5 : (50 : Int) ∈ T.hs := by rw [k.st.hs]; simp
  refine chs_none (ok.si 50 h5) (k.kn n hn) ?_
  have g5 : goalF ms 50 = none := by
    rw [goalF_none]
    intro z
    obtain ⟨m, hm', e⟩ := List.mem_map.mp z
    exact h50 (e ▸ (hm m hm').1)
  unfold wayOf
  rw [g5, k.si, show ((none : Option (Int × Int)).getD (T.th 50).p) = (T.th 50).p from rfl, k.st.c50]
  cases e : goalF ms n with
  | none =>
    have := k.st.far n hn
    show cheb cen (T.th n).p ≤ 60 + swing
    omega
  | some p =>
    have := (hm _ (goalF_mem e)).2
    show cheb cen p ≤ 60 + swing
    simp only at this
    omega
theorem K40.turn {T : TS} {done : List Int} {swing : Int} (k : K40 T done swing) (ok : T.Ok) (hs : 0 ≤ swing) {ms : List (Int × (Int × Int))} (hm : ∀ m ∈ ms, m.1 ∈ done ∧ cheb cen m.2 ≤ 60) (h50 : 50 ∉ done) : turnRows T (goalF ms) = [] ∧ K40 (turnS T (goalF ms)) done swing := by
  constructor
  · unfold turnRows
    rw [k.st.hs]
    simp only [List.flatMap_cons, List.flatMap_nil, List.append_nil]
    unfold pairRows
    rw [List.flatMap_eq_nil_iff]
    intro n hn
    obtain ⟨h1, h2, _⟩ := mem_pairs.mp hn
    have hd : n ∈ done := ((k.st.ids n).mp h1).elim (fun z => absurd z h2) id
    rw [k.chs ok hs hm h50 hd]
    rfl
  · have g5 : goalF ms 50 = none := by
      rw [goalF_none]
      intro z
      obtain ⟨m, hm', e⟩ := List.mem_map.mp z
      exact h50 (e ▸ (hm m hm').1)
    refine ⟨⟨k.st.doors, k.st.hs, k.st.ids, k.st.th, ?_, fun n hn => ?_⟩, fun n hn => ?_, k.si⟩
    · show (goalF ms 50).getD (T.th 50).p = cen
      rw [g5]
      exact k.st.c50
    · show cheb cen ((goalF ms n).getD (T.th n).p) ≤ 60
      cases e : goalF ms n with
      | none => exact k.st.far n hn
      | some p => exact (hm _ (goalF_mem e)).2
    · show (if 50 ∈ T.hs ∧ n ∈ pairs T 50 then lastK (T.kn 50 n) (NT.K.chs T (goalF ms) 50 n) else T.kn 50 n) = true
      rw [k.chs ok hs hm h50 hn]
      split
      · exact k.kn n hn
      · exact k.kn n hn
end NT.K
namespace NT.K
open PySem L2 NT
theorem up_len' {l : List Int} (h : Up l) {k : Nat} (b : ∀ x ∈ l, 0 ≤ x ∧ x < k) : l.length ≤ k := by
  have h1 : (l.map Int.toNat).Nodup := by
    rw [List.nodup_iff_pairwise_ne, List.pairwise_map]
    refine List.Pairwise.imp_of_mem (fun {p q} hp hq hpq e => ?_) h
    have b1 := b p hp
    have b2 := b q hq
    omega
  have := L2.nat_nodup_len _ (List.range k) h1 fun x hx => by
    obtain ⟨p, hp, rfl⟩ := List.mem_map.mp hx
    have := b p hp
    rw [List.mem_range]
    omega
  simpa using this
/-- a thing that the teller of this law may hold -/
structure TT (t : Thing) : Prop where
  room : t.room = 0
  g : t.g = none
  far : cheb cen t.p ≤ 60
  p : 0 ≤ t.p.1 ∧ t.p.1 ≤ 999 ∧ 0 ≤ t.p.2 ∧ t.p.2 ≤ 999
theorem allknown_ok {wf n : Nat} {S : Sto} {R : Nat} {l : List Int} {w : Int → Int} {swing : Int} {b0 : List Thing} {bs : List (List Thing)} (hw : 5000000 ≤ wf) (h0 : 0 < S.length) (hc : S[R]? = some (.dK (dk (fun n => .int (w n)) l))) (hR : R ≠ 0) (nd : l.Nodup) (hl : l.length ≤ 10) (hn : ∀ n ∈ l, 0 ≤ n ∧ n < 50) (hs : 0 ≤ swing ∧ swing ≤ 8) (hb0 : b0 ∈ bs) (hx : ∃ r, bs = b0 :: r) (hb : ∀ b ∈ bs, b.map (·.n) = l ∧ ∀ t ∈ b, TT t) (hbs : bs.length ≤ 100) :
    (run F wf (n + 8) i__law_all_known [.tup (bs.map dB), .ref R, .int swing] S).To fun d S' => d = .bl true ∧ Go 0 S S' := by
  have hRl : R < S.length := (List.getElem?_eq_some_iff.mp hc).1
  obtain ⟨i0, hi0⟩ : ∃ i0, i0 = S.length := ⟨_, rfl⟩
  obtain ⟨M, em, rm, lm⟩ := make_ok (wf := wf) (n := n + 6) (S := S) (ds := []) DOk.nil h0
  have em' : run F wf (n + 7) i_Teller___init__ [.ref S.length, .tup []] (S ++ [.ins c_Teller []]) = .ok .non (S ++ M) := em
  have h50l : (50 : Int) ∉ l := fun z => by have := hn _ z; omega
  have w0 : WT S (S ++ M) (newA S.length) (newT []) := ⟨rm, ((Fr.refl (fun _ => False) S).app M h0).go, fun p o => by
    rcases o with rfl | rfl | rfl | rfl | ⟨y, hy, _⟩
    · simp [newA]
    · simp [newA]
    · simp [newA]
    · simp [newA]
    · cases hy⟩
  have hA0 : (newA S.length).i = i0 := by rw [hi0]; rfl
  obtain ⟨A0, hA0e⟩ : ∃ A, A = newA S.length := ⟨_, rfl⟩
  rw [← hA0e] at w0 hA0
  obtain ⟨S1, hS1⟩ : ∃ S1, S1 = S ++ M := ⟨_, rfl⟩
  rw [← hS1] at em' w0
  have ps : ∀ {S' : Sto} {A : TA} {T : TS}, WT S S' A T → 0 < S'.length := fun w => by have := w.go.len; omega
  obtain ⟨d1, S2, e2, _, a2⟩ := come_ok (wf := wf) (n := n) (S := S1) (A := A0) (T := newT []) (m := 50) (t := ⟨cen, 0, none⟩) (by omega) w0.rep (ps w0) (by simp [newT]) ⟨by simp [cen], by simp⟩ (by simp [newT])
  obtain ⟨A1, hA1, w1⟩ := w0.act a2
  rw [hA0] at e2 hA1
  have e2' : run F wf (n + 7) i_Teller_come [.ref i0, .int 50, .tup [.int 100, .int 100], .int 0, .non] S1 = .ok d1 S2 := e2
  have i1 : insOf S1 c_Teller (.ref i0) = some (i0, tfs (newT []) A0) := by
    have := w0.rep.ins_of
    rwa [hA0] at this
  refine run_To h__law_all_known rfl (to_nm ?_)
  simp [f__law_all_known, em', madeR]
  rw [← hi0]
  refine to_exp ?_
  simp [i1, e2']
  have s1 : St40 (TS.comeS (newT []) 50 ⟨cen, 0, none⟩).settle [] [] := by
    refine ⟨rfl, rfl, fun m => ?_, fun m hm => ?_, ?_, fun m h => by cases h⟩
    · show m ∈ addS 50 [] ↔ _
      rw [mem_addS]
    · have hm' : m ∈ addS 50 [] := hm
      rcases mem_addS.mp hm' with rfl | h
      · show (updF (newT []).th 50 (⟨cen, 0, none⟩ : Th) 50).room = 0 ∧ (updF (newT []).th 50 (⟨cen, 0, none⟩ : Th) 50).g = none
        simp
      · cases h
    · show (updF (newT []).th 50 (⟨cen, 0, none⟩ : Th) 50).p = cen
      simp
  obtain ⟨r0, hr0⟩ := hx
  have hb0' := hb b0 hb0
  have hat : idxD S2 [.tup (bs.map dB), .int 0] = some (dB b0, S2) := by
    rw [hr0, List.map_cons, idx_tup, at_in (by omega) (by simp)]
    rfl
  have hlen0 : b0.length ≤ 10 := by
    have := congrArg List.length hb0'.1
    simp at this
    omega
  obtain ⟨J, hJ⟩ : ∃ J : List Thing → NT.Env → Sto → Prop, ∀ pre ρ S', J pre ρ S' ↔ (∃ A T x4 x5 x6 x7, ρ = [some (.tup (bs.map dB)), some (.ref R), some (.int swing), some (.ref i0), x4, x5, x6, x7, none, none] ∧ A.i = i0 ∧ WT S S' A T ∧ St40 T [] (pre.map (·.n))) := ⟨_, fun _ _ _ => Iff.rfl⟩
  have few : ∀ {T : TS} {hs : List Int} {done : List Int}, T.Ok → St40 T hs done → (∀ n ∈ done, n ∈ l) → T.ids.length ≤ 100 := fun ok s hd => up_len' ok.ids (k := 100) fun x hx => by
    rcases (s.ids x).mp hx with rfl | h
    · omega
    · have := hn x (hd x h)
      omega
  refine to_forP (g := dT) (xs := b0) (S1 := S2) (by simp [hat, dB]) J ((hJ _ _ _).mpr ⟨A1, _, _, _, _, _, rfl, hA1, w1, s1⟩) ?_ ?_
  · intro pre t post ρ S3 ex hj
    obtain ⟨A, T, x4, x5, x6, x7, rfl, hA, wt, st⟩ := (hJ _ _ _).mp hj
    have htb : t ∈ b0 := by rw [ex]; simp
    have tt := hb0'.2 t htb
    have htl : t.n ∈ l := by rw [← hb0'.1]; exact List.mem_map.mpr ⟨t, htb, rfl⟩
    have hpre : ∀ n ∈ pre.map (·.n), n ∈ l := fun n h => by
      rw [← hb0'.1, ex, List.map_append]
      exact List.mem_append_left _ h
    have hnp : t.n ∉ pre.map (·.n) := by
      have := nd
      rw [← hb0'.1, ex, List.map_append, List.map_cons] at this
      exact fun z => (List.nodup_append.mp this).2.2 _ z _ List.mem_cons_self rfl
    have hne : t.n ≠ 50 := fun z => h50l (z ▸ htl)
    have hni : t.n ∉ T.ids := fun z => ((st.ids t.n).mp z).elim hne hnp
    have hf := few wt.rep.ok st hpre
    obtain ⟨d3, S4, e4, _, a4⟩ := come_ok (wf := wf) (n := n) (S := S3) (A := A) (T := T) (m := t.n) (t := ⟨t.p, 0, none⟩) (by omega) wt.rep (ps wt) hni ⟨by have := tt.p; simp only; omega, by simp⟩ (by omega)
    obtain ⟨A', hA', w4⟩ := wt.act a4
    rw [hA] at e4 hA'
    have e4' : run F wf (n + 7) i_Teller_come [.ref i0, .int t.n, dP t.p, .int 0, .non] S3 = .ok d3 S4 := e4
    have i3 : insOf S3 c_Teller (.ref i0) = some (i0, tfs T A) := by
      have := wt.rep.ins_of
      rwa [hA] at this
    refine ⟨_, rfl, to_exp ?_⟩
    simp [i3, tt.room, tt.g, dG, e4']
    refine to_nil ?_
    refine (hJ (pre ++ [t]) _ _).mpr ⟨A', _, _, _, _, _, rfl, hA', w4, ?_⟩
    rw [List.map_append]
    exact st_come st hne tt.far hnp
  · intro ρ S3 hj
    obtain ⟨A, T, x4, x5, x6, x7, rfl, hA, wt, st⟩ := (hJ _ _ _).mp hj
    rw [hb0'.1] at st
    have h50 : (50 : Int) ∈ T.ids := (st.ids 50).mpr (.inl rfl)
    obtain ⟨d4, S4, e4, _, a4⟩ := listen_ok (wf := wf) (n := n) (S := S3) (A := A) (T := T) (m := 50) (s := ⟨60, swing, 0⟩) (by omega) wt.rep (ps wt) h50 ⟨by simp, by simp only; omega⟩
    obtain ⟨A4, hA4, w4⟩ := wt.act a4
    rw [hA] at e4 hA4
    have e4' : run F wf (n + 7) i_Teller_listen [.ref i0, .int 50, .tup [.int 60, .int swing, .int 0]] S3 = .ok d4 S4 := e4
    have i3 : insOf S3 c_Teller (.ref i0) = some (i0, tfs T A) := by
      have := wt.rep.ins_of
      rwa [hA] at this
    refine to_exp ?_
    simp [i3, e4']
    have k4 := st_listen st hs.1 h50l
    obtain ⟨J2, hJ2⟩ : ∃ J : List (List Thing) → NT.Env → Sto → Prop, ∀ pre ρ S', J pre ρ S' ↔ (∃ A T x4 x5 x6 x7 x8, ρ = [some (.tup (bs.map dB)), some (.ref R), some (.int swing), some (.ref i0), x4, x5, x6, x7, x8, none] ∧ A.i = i0 ∧ WT S S' A T ∧ K40 T l swing) := ⟨_, fun _ _ _ => Iff.rfl⟩
    refine to_forP (g := dB) (xs := bs) (S1 := S4) (by simp [asSeq_tup]) J2 ((hJ2 _ _ _).mpr ⟨A4, _, _, _, _, _, _, rfl, hA4, w4, k4⟩) ?_ ?_
    · intro pre b post ρ S5 ex hj2
      obtain ⟨A5, T5, x4, x5, x6, x7, x8, rfl, hA5, w5, k5⟩ := (hJ2 _ _ _).mp hj2
      have hbb := hb b (by rw [ex]; simp)
      have hlb : b.length ≤ 10 := by
        have := congrArg List.length hbb.1
        simp at this
        omega
      obtain ⟨ms, hms⟩ : ∃ ms : List (Int × (Int × Int)), ms = b.map fun t => (t.n, t.p) := ⟨_, rfl⟩
      have hm1 : ∀ m ∈ ms, m.1 ∈ l ∧ cheb cen m.2 ≤ 60 := fun m hm => by
        rw [hms] at hm
        obtain ⟨t, ht, rfl⟩ := List.mem_map.mp hm
        exact ⟨by rw [← hbb.1]; exact List.mem_map.mpr ⟨t, ht, rfl⟩, (hbb.2 t ht).far⟩
      have hm2 : ∀ m ∈ ms, PlB m.2 := fun m hm => by
        rw [hms] at hm
        obtain ⟨t, ht, rfl⟩ := List.mem_map.mp hm
        have := (hbb.2 t ht).p
        unfold PlB
        simp only
        omega
      have hnd : (ms.map (·.1)).Nodup := by
        have e : ms.map (·.1) = b.map (·.n) := by rw [hms, List.map_map]; rfl
        rw [e, hbb.1]
        exact nd
      have te : turnExc T5 ms [] = none := turnExc_ok (fun m hm => ⟨(k5.st.ids _).mpr (.inr (hm1 m hm).1), by simp⟩) hnd
      have tx := turn_ok (wf := wf) (n := n) (S := S5) (A := A5) (T := T5) (ms := ms) hw w5.rep (ps w5) hm2 (by rw [hms]; simp; omega)
      obtain ⟨d6, S6, e6, _, hd6, r6, f6⟩ := (tx.mono (fun a S h => h) (fun c S h => by rw [te] at h; simp at h)).to
      obtain ⟨kr, k6⟩ := k5.turn w5.rep.ok hs.1 hm1 h50l
      rw [kr] at hd6
      have hd6' : d6 = .tup [] := by rw [hd6]; rfl
      subst hd6'
      rw [hA5] at e6
      have w6 : WT S S6 A5 (turnS T5 (goalF ms)) := ⟨r6, go_fr w5.go f6 w5.ow, w5.ow⟩
      have h5 : (50 : Int) ∈ (turnS T5 (goalF ms)).hs := by rw [k6.st.hs]; simp
      have ek := knows_ok (wf := wf) (n := n + 6) r6 h5
      rw [hA5, k6.knows r6.ok nd] at ek
      have i5 : insOf S5 c_Teller (.ref i0) = some (i0, tfs T5 A5) := by
        have := w5.rep.ins_of
        rwa [hA5] at this
      have i6 : insOf S6 c_Teller (.ref i0) = some (i0, tfs (turnS T5 (goalF ms)) A5) := by
        have := r6.ins_of
        rwa [hA5] at this
      have hdk : DK S6 R (srt l) (fun n => .int (w n)) := ⟨l, (w6.go.old R hR hRl).trans hc, (List.mergeSort_perm _ _).symm⟩
      have hsl : (srt l).length ≤ 16777216 := by unfold srt; simp; omega
      have hso := hdk.sorted (up_srt nd) hsl
      have hz : b.length ≤ 16777216 := by omega
      have hslc : ∀ t : Thing, slcF S5 (dT t) none (some 2) = some (dMv (t.n, t.p)) := fun t => by
        have hc : cutD [.int t.n, dP t.p, .int t.room, dG t.g] none (some 2) = [.int t.n, dP t.p] := rfl
        simp [slcF, dT, asSeq_tup, hc, dMv]
      refine ⟨_, rfl, to_ite_fs (S1 := S6) ?_ (to_nil ((hJ2 (pre ++ [b]) _ _).mpr ⟨A5, _, _, _, _, _, _, rfl, hA5, w6, k6⟩))⟩
      have hdB : dB b = .tup (b.map dT) := rfl
      simp [i5, hdB, hz]
      rw [lcD_all dT (fun t => dMv (t.n, t.p)) gok_nil _ (fun t ht => by simp [hslc])]
      have e6' : run F wf (n + 7) i_Teller_turn [.ref i0, .tup (b.map fun t => dMv (t.n, t.p))] S5 = .ok (.tup []) S6 := by
        rw [hms, List.map_map] at e6
        exact e6
      have n0 : neD S6 [.tup [], .tup []] = some (.bl false, S6) := ne_self rfl (by decide)
      have n1 : neD S6 [iL (srt l), iL (srt l)] = some (.bl false, S6) := ne_self (pl_iL _) (by rw [dep_iL]; omega)
      simp [hz, e6', n0, i6, ek, hso, hsl]
      unfold iL at n1 ⊢
      simp [n1]
    · intro ρ S5 hj2
      obtain ⟨A5, T5, x4, x5, x6, x7, x8, rfl, hA5, w5, k5⟩ := (hJ2 _ _ _).mp hj2
      refine to_ret ?_
      simp
      exact w5.go
end NT.K
namespace NT.K
open PySem L2 NT
theorem chosen_all2 {ts : List Thing} {p : Int × Int} {kept : List Int} {most slack : Int} (h : (ts.map (·.n)).Nodup) (hm : (ts.length : Int) ≤ most) : chosenL ts p kept most slack = srt (ts.map (·.n)) := by
  refine (chosen_up h).uniq (up_srt h) fun n => ?_
  have e : n ∈ srt (ts.map (·.n)) ↔ n ∈ ts.map (·.n) := by unfold srt; rw [List.mem_mergeSort]
  rw [e]
  refine ⟨chosen_sub, fun hn => ?_⟩
  obtain ⟨t, ht, rfl⟩ := List.mem_map.mp hn
  refine mem_chosen.mpr ⟨chRow p kept slack t, ?_, rfl⟩
  rw [List.take_of_length_le (by simp; omega), List.mem_mergeSort]
  exact List.mem_map.mpr ⟨t, ht, rfl⟩
theorem chain_zero {p : Int × Int} {most : Int} : ∀ (bs : List (List Thing)) (k : List Int), chainL p most 0 k bs = bs.map fun b => srt (nearestL b p most)
  | [], _ => rfl
  | b :: bs, k => by
    simp only [chainL, List.map_cons]
    rw [chosen_zero, chain_zero bs]
theorem chain_mem {p : Int × Int} {most slack : Int} : ∀ {bs : List (List Thing)} {k r : List Int}, r ∈ chainL p most slack k bs → ∃ b ∈ bs, ∃ k', r = chosenL b p k' most slack
  | [], _, _, h => by cases h
  | b :: bs, k, r, h => by
    simp only [chainL] at h
    rcases List.mem_cons.mp h with rfl | h
    · exact ⟨b, List.mem_cons_self, k, rfl⟩
    · obtain ⟨b', hb', k', e⟩ := chain_mem h
      exact ⟨b', List.mem_cons_of_mem _ hb', k', e⟩
theorem plL_iLs : ∀ rows : List (List Int), plL (rows.map iL) = true
  | [] => rfl
  | r :: rows => by simp [plL, pl_iL, plL_iLs rows]
theorem depL_iLs : ∀ rows : List (List Int), depL (rows.map iL) ≤ 1
  | [] => Nat.zero_le _
  | r :: rows => by
    have := depL_iLs rows
    simp [depL, dep_iL]
    omega
theorem law_run (ns : List Int) : ∃ wf S, run F wf 30 i_law [.wl (ns.map .int)] [] = .ok (.bl true) S := by
  obtain ⟨wf, hw⟩ : ∃ wf : Nat, 5000000 ≤ wf := ⟨5000000, Nat.le_refl _⟩
  refine ⟨wf, ?_⟩
  have main : (run F wf 30 i_law [.wl (ns.map .int)] []).To fun d S => d = .bl true := by
    refine run_To (n := 29) h_law rfl (to_nm ?_)
    simp [f_law]
    have t0 : Tn 1000000 [Cell.lst []] := ⟨[], rfl, by simp⟩
    obtain ⟨J, hJ⟩ : ∃ J : List D → NT.Env → Sto → Prop, ∀ items ρ S', J items ρ S' ↔ (∃ (x2 x3 x4 x5 x6 x7 x8 x9 x10 x11 x12 x13 x14 : Option D), ρ = [some (.wl (ns.map .int)), some (.ref 0), x2, x3, x4, x5, x6, x7, x8, x9, x10, x11, x12, x13, x14] ∧ Tn (500 * items.length) S') := ⟨_, fun _ _ _ => Iff.rfl⟩
    refine to_for (items := rngD 0 (4 : Int).toNat) (gs := []) (S1 := [.lst []]) (rng1 (by simp) (by decide)) J ((hJ _ _ _).mpr ⟨_, _, _, _, _, _, _, _, _, _, _, _, _, rfl, t0.mono (by simp [rngD])⟩) (fun _ _ _ _ => gok_nil) ?_ ?_
    · intro d items ρ S hj
      obtain ⟨x2, x3, x4, x5, x6, x7, x8, x9, x10, x11, x12, x13, x14, rfl, ht⟩ := (hJ _ _ _).mp hj
      simp only [List.length_cons] at ht
      refine ⟨_, rfl, to_nm ?_⟩
      obtain ⟨d0, S1, e1, swing, rfl, hs0, hs9, g1⟩ := draw_ok (wf := wf) (n := 28) (ns := ns) (m := 9) (S := S) (by omega) (ht.mono (by omega))
      have t1 := g1.town (500 * items.length + 400) (ht.mono (by omega))
      simp [e1]
      obtain ⟨R, hR⟩ : ∃ R, R = S1.length := ⟨_, rfl⟩
      refine to_nm ?_
      simp
      rw [← hR]
      obtain ⟨S2, hS2⟩ : ∃ S2, S2 = S1 ++ [Cell.dK []] := ⟨_, rfl⟩
      rw [← hS2]
      have hR0 : R ≠ 0 := by have := t1.pos; omega
      have t2 : Tn (500 * items.length + 400) S2 := by
        rw [hS2]
        exact (Go.push _ t1.pos).town _ (t1.mono (by omega))
      obtain ⟨d0, S3, e3, m, rfl, hm0, hm8, g3⟩ := draw_ok (wf := wf) (n := 28) (ns := ns) (m := 8) (S := S2) (by omega) (t2.mono (by omega))
      have t3 := g3.town (500 * items.length + 390) (t2.mono (by omega))
      have dk0 : DK S3 R [] (fun n => .int ((fun _ => 5) n)) := ⟨[], by
        rw [g3.old R hR0 (by rw [hS2, hR]; simp), hS2, hR]
        simp [dk], .nil⟩
      obtain ⟨J1, hJ1⟩ : ∃ J : List Int → NT.Env → Sto → Prop, ∀ pre ρ S', J pre ρ S' ↔ (∃ (x5 x6 x7 x8 x9 x10 x11 x12 x13 x14 : Option D) (ids : List Int) (w : Int → Int), ρ = [some (.wl (ns.map .int)), some (.ref 0), some d, some (.int swing), some (.ref R), x5, x6, x7, x8, x9, x10, x11, x12, x13, x14] ∧ DK S' R ids (fun n => .int (w n)) ∧ Up ids ∧ (∀ n ∈ ids, (0 ≤ n ∧ n < 9) ∧ 5 ≤ w n ∧ w n ≤ 43) ∧ (∀ n ∈ pre, n ∈ ids) ∧ Tn (500 * items.length + 390 - pre.length) S') := ⟨_, fun _ _ _ => Iff.rfl⟩
      have r1 : rngD 0 (2 + m).toNat = ((List.range (2 + m).toNat).map fun i : Nat => (i : Int)).map D.int := by
        unfold rngD
        rw [List.map_map]
        exact List.map_congr_left fun i _ => by simp
      refine to_forP (g := D.int) (xs := (List.range (2 + m).toNat).map fun i : Nat => (i : Int)) (S1 := S3) (by
        rw [← r1]
        exact rng1 (by simp [e3]) (by omega)) J1 ((hJ1 _ _ _).mpr ⟨_, _, _, _, _, _, _, _, _, _, [], fun _ => 5, rfl, dk0, by simp [Up], by simp, by simp, t3.mono (by simp)⟩) ?_ ?_
      · intro pre k post ρ S' ex hj1
        obtain ⟨x5, x6, x7, x8, x9, x10, x11, x12, x13, x14, ids, w, rfl, hdk, hup, hids, hpre, htn⟩ := (hJ1 _ _ _).mp hj1
        have hlen : pre.length < 9 := by
          have := congrArg List.length ex
          simp at this
          omega
        have hk : 0 ≤ k ∧ k < 9 := by
          have : k ∈ (List.range (2 + m).toNat).map fun i : Nat => (i : Int) := by rw [ex]; simp
          obtain ⟨i, hi, rfl⟩ := List.mem_map.mp this
          have := List.mem_range.mp hi
          omega
        obtain ⟨d0, S4, e4, a, rfl, ha0, ha20, g4⟩ := draw_ok (wf := wf) (n := 28) (ns := ns) (m := 20) (S := S') (by omega) (htn.mono (by omega))
        have t4 := g4.town (500 * items.length + 390 - pre.length - 1) (htn.mono (by omega))
        have hdk4 : DK S4 R ids (fun n => .int (w n)) := hdk.of (g4.old R hR0 hdk.lt)
        have hil : ids.length ≤ 9 := up_len' hup (k := 9) fun x hx => (hids x hx).1
        obtain ⟨cc, es, hdk5⟩ := hdk4.set (by omega) k (.int (5 + 2 * a))
        have cm : CMul 2 a := cmulL (by omega) (by omega)
        refine ⟨_, rfl, to_setI ?_⟩
        simp [e4, cm, es]
        refine to_nil ?_
        refine (hJ1 (pre ++ [k]) _ _).mpr ⟨_, _, _, _, _, _, _, _, _, _, addS k ids, updF w k (5 + 2 * a), rfl, hdk5.congr fun n _ => ?_, hup.add, fun n hn => ?_, fun n hn => ?_, ?_⟩
        · unfold updF
          split <;> rfl
        · unfold updF
          rcases mem_addS.mp hn with rfl | h
          · rw [if_pos rfl]
            omega
          · have := hids n h
            split
            · omega
            · omega
        · rcases List.mem_append.mp hn with h | h
          · exact mem_addS.mpr (.inr (hpre n h))
          · exact mem_addS.mpr (.inl (List.mem_singleton.mp h))
        · obtain ⟨zs, q1, q2⟩ := t4
          exact ⟨zs, by rw [List.getElem?_set_ne hR0]; exact q1, by simp; omega⟩
      · intro ρ S' hj1
        obtain ⟨x5, x6, x7, x8, x9, x10, x11, x12, x13, x14, ids, w, rfl, hdk, hup, hids, hpre, htn⟩ := (hJ1 _ _ _).mp hj1
        have h0in : (0 : Int) ∈ ids := hpre 0 (List.mem_map.mpr ⟨0, List.mem_range.mpr (by omega), rfl⟩)
        obtain ⟨l, hcell, hperm⟩ := hdk
        have nd : l.Nodup := hperm.nodup_iff.mpr hup.nodup
        have hll : ∀ n ∈ l, (0 ≤ n ∧ n < 9) ∧ 5 ≤ w n ∧ w n ≤ 43 := fun n hn => hids n (hperm.mem_iff.mp hn)
        have hl9 : l.length ≤ 9 := by
          rw [hperm.length_eq]
          exact up_len' hup (k := 9) fun x hx => (hids x hx).1
        have hlne : l ≠ [] := fun z => by
          have := hperm.mem_iff.mpr h0in
          rw [z] at this
          cases this
        have t5 : Tn (500 * items.length + 380) S' := htn.mono (by simp; omega)
        obtain ⟨d0, S6, e6, mo, rfl, hm0', hm5, g6⟩ := draw_ok (wf := wf) (n := 28) (ns := ns) (m := 5) (S := S') (by omega) (t5.mono (by omega))
        have t6 := g6.town (500 * items.length + 370) (t5.mono (by omega))
        have hRl : R < S'.length := (List.getElem?_eq_some_iff.mp hcell).1
        have hcell6 : S6[R]? = some (.dK (dk (fun n => .int (w n)) l)) := (g6.old R hR0 hRl).trans hcell
        refine to_asg ?_
        simp [e6]
        obtain ⟨most, hmost⟩ : ∃ most, most = 1 + mo := ⟨_, rfl⟩
        rw [← hmost]
        -- the boards
        obtain ⟨J2, hJ2⟩ : ∃ J : List D → NT.Env → Sto → Prop, ∀ items2 ρ T, J items2 ρ T ↔ (∃ (x8 : Option D) (bs : List (List Thing)), ρ = [some (.wl (ns.map .int)), some (.ref 0), some d, some (.int swing), some (.ref R), x5, some (.tup (bs.map dB)), some (.int most), x8, x9, x10, x11, x12, x13, x14] ∧ (∀ b ∈ bs, b.map (·.n) = l ∧ ∀ t ∈ b, BT w swing t) ∧ bs.length + items2.length = 12 ∧ T[R]? = some (.dK (dk (fun n => .int (w n)) l)) ∧ Tn (500 * items.length + 20 * items2.length + 10) T) := ⟨_, fun _ _ _ => Iff.rfl⟩
        refine to_for (items := rngD 0 (12 : Int).toNat) (gs := []) (S1 := S6) (rng1 (by simp) (by decide)) J2 ((hJ2 _ _ _).mpr ⟨_, [], rfl, by simp, by simp [rngD], hcell6, t6.mono (by simp [rngD])⟩) (fun _ _ _ _ => gok_nil) ?_ ?_
        · intro dd items2 ρ T hj2
          obtain ⟨x8, bs, rfl, hbs, hlen, hcT, htT⟩ := (hJ2 _ _ _).mp hj2
          simp only [List.length_cons] at hlen htT
          obtain ⟨d0, T1, eb, b, rfl, hb1, hb2, gb⟩ := lawboard_ok (wf := wf) (n := 26) (ns := ns) (S := T) (R := R) (l := l) (w := w) (swing := swing) hcT hR0 (by omega) (fun n hn => (hll n hn).2) (by omega) (htT.mono (by omega))
          have hRT : R < T.length := (List.getElem?_eq_some_iff.mp hcT).1
          refine ⟨_, rfl, to_nm ?_⟩
          have had := add_tup (S := T1) (a := bs.map dB) (b := [dB b]) (by simp; omega)
          simp [eb, had]
          refine to_nil ?_
          refine (hJ2 _ _ _).mpr ⟨some dd, bs ++ [b], by simp, fun c hc => ?_, by simp; omega, (gb.old R hR0 hRT).trans hcT, gb.town _ (htT.mono (by omega))⟩
          rcases List.mem_append.mp hc with h | h
          · exact hbs c h
          · rw [List.mem_singleton.mp h]
            exact ⟨hb1, hb2⟩
        intro ρ T hj2
        obtain ⟨x8, bs, rfl, hbs, hlen, hcT, htT⟩ := (hJ2 _ _ _).mp hj2
        simp only [List.length_nil] at hlen htT
        obtain ⟨b0, r0, hb0⟩ : ∃ b0 r0, bs = b0 :: r0 := by
          cases bs with
          | nil => simp at hlen
          | cons b0 r0 => exact ⟨b0, r0, rfl⟩
        have hb0m : b0 ∈ bs := by rw [hb0]; exact List.mem_cons_self
        have hbl : ∀ b ∈ bs, b.length = l.length := fun b hb => by rw [← (hbs b hb).1]; simp
        have hbnd : ∀ b ∈ bs, (b.map (·.n)).Nodup := fun b hb => by rw [(hbs b hb).1]; exact nd
        have hbne : ∀ b ∈ bs, b ≠ [] := fun b hb z => by
          have := hbl b hb
          rw [z] at this
          exact hlne (List.length_eq_zero_iff.mp this.symm)
        have hz : ∀ b ∈ bs, b.length ≤ 1000 := fun b hb => by rw [hbl b hb]; omega
        have hRT : R < T.length := (List.getElem?_eq_some_iff.mp hcT).1
        have cc : (D.tup [.int 100, .int 100]) = dP cen := rfl
        have cm2 : CMul 2 swing := cmulL (by omega) (by omega)
        have bl1000 : bs.length ≤ 1000 := by omega
        have t12 : Tn (500 * items.length + 10) T := htT.mono (by omega)
        -- keeping
        obtain ⟨d0, T1, f1, rfl, G1⟩ := chosen_on_ok (wf := wf) (n := 26) (bs := bs) (p := cen) (most := most) (slack := 2 * swing) (S := T) hz bl1000 (by omega) t12.pos
        have f1' : run F wf 29 i_chosen_on [.tup (bs.map dB), .tup [.int 100, .int 100], .int most, .int (2 * swing)] T = _ := f1
        obtain ⟨rows, hrows⟩ : ∃ rows, rows = chainL cen most (2 * swing) [] bs := ⟨_, rfl⟩
        rw [← hrows] at f1'
        have hrl : rows.length = 12 := by rw [hrows, chainL_len]; omega
        have hrow : ∀ r ∈ rows, Up r ∧ r.length ≤ 1000 := fun r hr => by
          rw [hrows] at hr
          obtain ⟨b, hb, k', rfl⟩ := chain_mem hr
          exact ⟨chosen_up (hbnd b hb), by have := chosen_len b cen k' most (2 * swing); have := hz b hb; omega⟩
        refine to_nm ?_
        simp [cm2, f1']
        refine to_ite_f ?_ ?_
        · have hz2 : rows.length ≤ 16777216 := by omega
          simp [hz2]
          rw [lcD_all iL (fun r => .bl false) gok_nil _ (fun r hr => by
            obtain ⟨u, hlr⟩ := hrow r hr
            have hlr2 : r.length ≤ 16777216 := by omega
            have hso := sortedD_int (S := T1) (d := iL r) (ns := r) rfl (by simpa using hlr2)
            rw [sorted_up u] at hso
            have hne : neD T1 [.lst (r.map .int), .lst (r.map .int)] = some (.bl false, T1) := ne_self (pl_iL r) (by have := dep_iL r; unfold iL at this; exact Nat.le_trans (Nat.le_of_eq this) (by omega))
            have hlist : listD T1 [iL r] = some (.lst (r.map .int), T1) := rfl
            simp [hlist, hso, hne])]
          have := any_map (S := T1) (fun _ => false) rows
          have e0 : rows.any (fun _ => false) = false := by simp
          rw [e0] at this
          simp [this]
        -- all of them
        have hcT1 : T1[R]? = some (.dK (dk (fun n => .int (w n)) l)) := (G1.old R hR0 hRT).trans hcT
        have t13 : Tn (500 * items.length + 10) T1 := G1.town _ (t12.mono (by omega))
        have hRT1 : R < T1.length := (List.getElem?_eq_some_iff.mp hcT1).1
        obtain ⟨d0, T2, f2, rfl, G2⟩ := chosen_on_ok (wf := wf) (n := 26) (bs := bs) (p := cen) (most := 9) (slack := 0) (S := T1) hz bl1000 (by omega) t13.pos
        have f2' : run F wf 29 i_chosen_on [.tup (bs.map dB), .tup [.int 100, .int 100], .int 9, .int 0] T1 = _ := f2
        have hall : ∀ b ∈ bs, ∀ k, chosenL b cen k 9 0 = srt l := fun b hb k => by
          rw [chosen_all2 (hbnd b hb) (by rw [hbl b hb]; omega), (hbs b hb).1]
        have hcT2 : T2[R]? = some (.dK (dk (fun n => .int (w n)) l)) := (G2.old R hR0 hRT1).trans hcT1
        have hRT2 : R < T2.length := (List.getElem?_eq_some_iff.mp hcT2).1
        have t14 : Tn (500 * items.length + 10) T2 := G2.town _ (t13.mono (by omega))
        have hsl : (srt l).length ≤ 16777216 := by unfold srt; simp; omega
        refine to_ite_fs (S1 := T2) ?_ ?_
        · have hat2 : atI ((chainL cen 9 0 [] bs).map iL) 0 = some (iL (srt l)) := by
            have := hall b0 hb0m []
            rw [hb0, chainL, List.map_cons, this, at_in (by omega) (by simp)]
            rfl
          have hdk : DK T2 R (srt l) (fun n => .int (w n)) := ⟨l, hcT2, (List.mergeSort_perm _ _).symm⟩
          have hso := hdk.sorted (up_srt nd) hsl
          have n1 : neD T2 [iL (srt l), iL (srt l)] = some (.bl false, T2) := ne_self (pl_iL _) (by rw [dep_iL]; omega)
          have e0 : iL (srt l) = .tup ((srt l).map .int) := rfl
          rw [e0] at n1 hat2
          simp [f2', hat2, hso, hsl, n1]
        -- kept by worth
        obtain ⟨J3, hJ3⟩ : ∃ J : List Int → NT.Env → Sto → Prop, ∀ pre ρ T', J pre ρ T' ↔ (∃ (x10 : Option D), ρ = [some (.wl (ns.map .int)), some (.ref 0), some d, some (.int swing), some (.ref R), x5, some (.tup (bs.map dB)), some (.int most), x8, some (.tup (rows.map iL)), x10, x11, x12, x13, x14] ∧ Go 0 T2 T') := ⟨_, fun _ _ _ => Iff.rfl⟩
        have r3 : rngD 1 11 = ((List.range 11).map fun i : Nat => (1 + i : Int)).map D.int := by
          unfold rngD
          rw [List.map_map]
          rfl
        have hit : evIt (run F wf 29) (.range2 (.lit (.int 1)) (.bi .len (.cons (.var 6) .nil))) [some (.wl (ns.map .int)), some (.ref 0), some d, some (.int swing), some (.ref R), x5, some (.tup (bs.map dB)), some (.int most), x8, some (.tup (rows.map iL)), x10, x11, x12, x13, x14] T2 = .ok (((List.range 11).map fun i : Nat => (1 + i : Int)).map D.int, []) T2 := by
          rw [← r3]
          have e12 : bs.length = 12 := by omega
          simp [e12]
        refine to_forP (g := D.int) (xs := (List.range 11).map fun i : Nat => (1 + i : Int)) (S1 := T2) hit J3 ((hJ3 _ _ _).mpr ⟨_, rfl, Go.refl _⟩) ?_ ?_
        · intro pre k post ρ T3 ex hj3
          obtain ⟨x10, rfl, G3⟩ := (hJ3 _ _ _).mp hj3
          have hk : ∃ i : Nat, i < 11 ∧ k = 1 + i := by
            have : k ∈ (List.range 11).map fun i : Nat => (1 + i : Int) := by rw [ex]; simp
            obtain ⟨i, hi, rfl⟩ := List.mem_map.mp this
            exact ⟨i, List.mem_range.mp hi, rfl⟩
          obtain ⟨i, hi, rfl⟩ := hk
          have t15 : 0 < T3.length := by have := G3.len; omega
          obtain ⟨b, hbi⟩ : ∃ b, bs[i + 1]? = some b := ⟨_, List.getElem?_eq_getElem (by omega)⟩
          have hbm : b ∈ bs := List.mem_of_getElem? hbi
          obtain ⟨k0, hk0⟩ : ∃ k0, rows[i]? = some k0 := ⟨_, List.getElem?_eq_getElem (by omega)⟩
          have hch := chain_at cen most (2 * swing) bs [] (i + 1) b hbi
          rw [← hrows] at hch
          simp only [Nat.add_eq_zero_iff, Nat.succ_ne_self, and_false, if_false, Nat.add_sub_cancel, hk0, Option.getD_some] at hch
          obtain ⟨d0, T4, f4, rfl, G4⟩ := keeps_ok (wf := wf) (n := 27) (S := T3) (b := b) (k0 := k0) (most := most) (slack := 2 * swing) t15 (hbnd b hbm) (hz b hbm) (by omega) (hbne b hbm)
          have a1 : atI (bs.map dB) (1 + (i : Int)) = some (dB b) := by
            rw [at_in (by omega) (by simp; omega), List.getElem?_map]
            have : (1 + (i : Int)).toNat = i + 1 := by omega
            rw [this, hbi]
            rfl
          have a2 : atI (rows.map iL) (1 + (i : Int) - 1) = some (iL k0) := by
            rw [at_in (by omega) (by simp; omega), List.getElem?_map]
            have : (1 + (i : Int) - 1).toNat = i := by omega
            rw [this, hk0]
            rfl
          have a3 : atI (rows.map iL) (1 + (i : Int)) = some (iL (chosenL b cen k0 most (2 * swing))) := by
            rw [at_in (by omega) (by simp; omega), List.getElem?_map]
            have : (1 + (i : Int)).toNat = i + 1 := by omega
            rw [this, hch]
            rfl
          refine ⟨_, rfl, to_ite_fs (S1 := T4) ?_ (to_nil ((hJ3 _ _ _).mpr ⟨_, rfl, (G3.trans G4).mono (by omega)⟩))⟩
          simp [a1, a2, a3, cm2, f4]
        intro ρ T3 hj3
        obtain ⟨x10, rfl, G3⟩ := (hJ3 _ _ _).mp hj3
        have hcT3 : T3[R]? = some (.dK (dk (fun n => .int (w n)) l)) := (G3.old R hR0 hRT2).trans hcT2
        have hRT3 : R < T3.length := (List.getElem?_eq_some_iff.mp hcT3).1
        have t16 : Tn (500 * items.length + 10) T3 := G3.town _ (t14.mono (by omega))
        -- still
        have hb1000 : b0.length ≤ 1000 := hz b0 hb0m
        obtain ⟨d0, T4, f4, rfl, G4⟩ := chosen_on_ok (wf := wf) (n := 26) (bs := List.replicate 5 b0) (p := cen) (most := most) (slack := swing) (S := T3) (fun b hb => by rw [(List.mem_replicate.mp hb).2]; exact hb1000) (by simp) (by omega) t16.pos
        have f4' : run F wf 29 i_chosen_on [.tup [dB b0, dB b0, dB b0, dB b0, dB b0], .tup [.int 100, .int 100], .int most, .int swing] T3 = _ := f4
        obtain ⟨stl, hstl⟩ : ∃ L, L = chainL cen most swing [] (List.replicate 5 b0) := ⟨_, rfl⟩
        rw [← hstl] at f4'
        have hsl1 : slcF T3 (.tup (bs.map dB)) none (some 1) = some (.tup [dB b0]) := by
          rw [hb0]
          simp [slcF, asSeq_tup, cut_to]
        have hmul : mulD T3 [.tup [dB b0], .int 5] = some (.tup [dB b0, dB b0, dB b0, dB b0, dB b0], T3) := by
          simp [mulD]
        refine to_nm ?_
        simp [hsl1, hmul, f4']
        have hcT4 : T4[R]? = some (.dK (dk (fun n => .int (w n)) l)) := (G4.old R hR0 hRT3).trans hcT3
        have hRT4 : R < T4.length := (List.getElem?_eq_some_iff.mp hcT4).1
        have t17 : Tn (500 * items.length + 10) T4 := G4.town _ (t16.mono (by omega))
        obtain ⟨d0, T5, f5, rfl, G5⟩ := chosen_on_ok (wf := wf) (n := 26) (bs := bs) (p := cen) (most := 9) (slack := 0) (S := T4) hz bl1000 (by omega) t17.pos
        have f5' : run F wf 29 i_chosen_on [.tup (bs.map dB), .tup [.int 100, .int 100], .int 9, .int 0] T4 = _ := f5
        obtain ⟨al, hal⟩ : ∃ L, L = chainL cen 9 0 [] bs := ⟨_, rfl⟩
        rw [← hal] at f5'
        have hcT5 : T5[R]? = some (.dK (dk (fun n => .int (w n)) l)) := (G5.old R hR0 hRT4).trans hcT4
        have hRT5 : R < T5.length := (List.getElem?_eq_some_iff.mp hcT5).1
        have t18 : Tn (500 * items.length + 10) T5 := G5.town _ (t17.mono (by omega))
        have fl0 : flickL (chainL cen most swing [] (List.replicate 5 b0)) = 0 := flick_same (A := chosenL b0 cen [] most swing) (chain_same (fun b hb k hk => by
          rw [(List.mem_replicate.mp hb).2]
          rcases hk with rfl | rfl
          · exact chosen_again (hbnd b0 hb0m) hs0 rfl
          · rfl) (.inr rfl))
        have fl1 : flickL (chainL cen 9 0 [] bs) = 0 := flick_same (A := srt l) (chain_same (fun b hb k hk => hall b hb k) (.inr rfl))
        have flen : ∀ {mo sl : Int} {bs : List (List Thing)}, (∀ b ∈ bs, b.length ≤ 1000) → ∀ r ∈ chainL cen mo sl [] bs, r.length ≤ 1000 := fun {mo sl bs} hz r hr => by
          obtain ⟨b, hb, k', rfl⟩ := chain_mem hr
          have := chosen_len b cen k' mo sl
          have := hz b hb
          omega
        have ff1 := flickers_ok (wf := wf) (n := 28) (S := T4) (flen (mo := most) (sl := swing) (bs := List.replicate 5 b0) (fun b hb => by rw [(List.mem_replicate.mp hb).2]; exact hb1000)) (by rw [chainL_len]; simp)
        have ff2 := flickers_ok (wf := wf) (n := 28) (S := T5) (flen (mo := 9) (sl := 0) hz) (by rw [chainL_len]; omega)
        rw [fl0, ← hstl] at ff1
        rw [fl1, ← hal] at ff2
        have n00 : ∀ S, neD S [.int 0, .int 0] = some (.bl false, S) := fun S => ne_self rfl (by decide)
        refine to_ite_fs (S1 := T5) (by simp [ff1, n00, f5', ff2]) ?_
        -- bare
        obtain ⟨d0, T6, f6, rfl, G6⟩ := chosen_on_ok (wf := wf) (n := 26) (bs := bs) (p := cen) (most := most) (slack := 0) (S := T5) hz bl1000 (by omega) t18.pos
        have f6' : run F wf 29 i_chosen_on [.tup (bs.map dB), .tup [.int 100, .int 100], .int most, .int 0] T5 = _ := f6
        rw [chain_zero] at f6'
        have hcT6 : T6[R]? = some (.dK (dk (fun n => .int (w n)) l)) := (G6.old R hR0 hRT5).trans hcT5
        have t19 : Tn (500 * items.length + 10) T6 := G6.town _ (t18.mono (by omega))
        refine to_nm ?_
        simp [f6']
        have hnl : ∀ b ∈ bs, (srt (nearestL b cen most)).length ≤ 16777216 := fun b hb => by
          have := hz b hb
          unfold srt nearestL
          simp
          omega
        refine to_ite_f ?_ ?_
        · have hz3 : bs.length ≤ 16777216 := by omega
          simp [hz3]
          rw [lcD_all dB (fun b => iL (srt (nearestL b cen most))) gok_nil _ (fun b hb => by
            have hn := nearest_ok (wf := wf) (n := 27) (ts := b) (p := cen) (S := T6) (most := most) (by have := hz b hb; omega) (by omega)
            have hn' : run F wf 29 i_nearest [dB b, .tup [.int 100, .int 100], .int most] T6 = .ok (.tup ((nearestL b cen most).map .int)) T6 := hn
            have hso := sortedD_int (S := T6) (d := .tup ((nearestL b cen most).map .int)) (ns := nearestL b cen most) rfl (by
              have := hz b hb
              unfold nearestL
              simp
              omega)
            have hso' : sortedD T6 [.tup ((nearestL b cen most).map .int)] = some (.lst ((srt (nearestL b cen most)).map .int), T6) := hso
            have hl2 := hnl b hb
            simp [hn', hso', hl2, iL])]
          have e2 : (bs.map fun b => iL (srt (nearestL b cen most))) = (bs.map fun b => srt (nearestL b cen most)).map iL := by rw [List.map_map]; rfl
          have hd := depL_iLs (bs.map fun b => srt (nearestL b cen most))
          have nn : neD T6 [.tup (bs.map fun b => iL (srt (nearestL b cen most))), .tup (bs.map fun b => iL (srt (nearestL b cen most)))] = some (.bl false, T6) := by
            rw [e2]
            exact ne_self (by simp only [pl, plL_iLs]) (by simp only [dep]; omega)
          simp [hz3, Function.comp_def, nn]
        -- chosen, once
        have hcen : T6.length > 0 := t19.pos
        obtain ⟨d0, T7, f7, rfl, G7⟩ := chosen_ok (wf := wf) (n := 27) (ts := b0) (p := cen) (kept := []) (most := most) (slack := 99) (S := T6) hb1000 (by omega) t19.pos
        have f7' : run F wf 29 i_chosen [dB b0, .tup [.int 100, .int 100], .tup [], .int most, .int 99] T6 = _ := f7
        rw [chosen_nil] at f7'
        have hRT6 : R < T6.length := (List.getElem?_eq_some_iff.mp hcT6).1
        have hcT7 : T7[R]? = some (.dK (dk (fun n => .int (w n)) l)) := (G7.old R hR0 hRT6).trans hcT6
        have t20 : Tn (500 * items.length + 10) T7 := G7.town _ (t19.mono (by omega))
        refine to_ite_fs (S1 := T7) ?_ ?_
        · have a0 : atI (bs.map dB) 0 = some (dB b0) := by
            rw [hb0, List.map_cons, at_in (by omega) (by simp)]
            rfl
          have a1 : atI (bs.map fun b => iL (srt (nearestL b cen most))) 0 = some (iL (srt (nearestL b0 cen most))) := by
            rw [hb0, List.map_cons, at_in (by omega) (by simp)]
            rfl
          have n1 : neD T7 [iL (srt (nearestL b0 cen most)), iL (srt (nearestL b0 cen most))] = some (.bl false, T7) := ne_self (pl_iL _) (by rw [dep_iL]; omega)
          simp [a0, f7', Function.comp_def, a1, n1]
        obtain ⟨d0, T8, f8, rfl, G8⟩ := allknown_ok (wf := wf) (n := 21) (S := T7) (R := R) (l := l) (w := w) (swing := swing) (b0 := b0) (bs := bs) hw t20.pos hcT7 hR0 nd (by omega) (fun n hn => by have := hll n hn; omega) (by omega) hb0m ⟨r0, hb0⟩ (fun b hb => ⟨(hbs b hb).1, fun t ht => by
          have bt := (hbs b hb).2 t ht
          have hwn := (hll t.n (by rw [← (hbs b hb).1]; exact List.mem_map.mpr ⟨t, ht, rfl⟩)).2
          have h1 := bt.far
          have h2 := bt.p
          exact ⟨bt.room, bt.g, by rw [cheb_comm]; omega, by omega⟩⟩) (by omega)
        have t21 : Tn (500 * items.length + 10) T8 := G8.town _ (t20.mono (by omega))
        refine to_ite_fs (S1 := T8) (by simp [f8]) ?_
        exact to_nil ((hJ _ _ _).mpr ⟨_, _, _, _, _, _, _, _, _, _, _, _, _, rfl, t21.mono (by omega)⟩)
    · intro ρ S hj
      obtain ⟨x2, x3, x4, x5, x6, x7, x8, x9, x10, x11, x12, x13, x14, rfl, ht⟩ := (hJ _ _ _).mp hj
      refine to_ret ?_
      simp
  obtain ⟨d, S, h, rfl⟩ := main
  exact ⟨S, h⟩
end NT.K
namespace NT.K
open PySem L2 NT
abbrev RR : PySem.W.OpenRow := PySem.W.OpenLaw.row PySem.Challenge.rw_neartold_k40_whole_keeping_by_slack
abbrev hk : PySem.W.Hook := hookN 4 Pr
def ob (s : PySem.W.SharedT) : He.AlD := obsNG 4 Pr (HandSHeadRun.getT s)
theorem ob_eq (s : PySem.W.SharedT) : ob s = hk.obs s.abs := obsNG_eq (HandSHeadRun.getT_eq s)
def loose0 : List PySem.Str := ["_wall", "distance", "nearest", "chosen", "chosen_on", "flickers", "NearError", "NoThing", "NoRoom", "BadMove", "divisor", "fraction", "is_less", "lesser", "greater", "within", "when_near", "changes", "beside", "steps", "reach", "opened", "shut", "START", "Teller", "is_ahead", "sorted_rows", "_law_draw", "_law_pick", "_law_board"]
def loose1 : List PySem.Str := ["_law_keeps", "_law_all_known"]
def loose : List PySem.Str := loose0 ++ loose1
theorem top_run (w : World) : HandSHeadRun.RunEq RR (PySem.W.view RR.prog [39]) hk ob 4000 loose w := by
  intro os
  kernel_rfl
end NT.K
open PySem PySem.W PySem.Calls PyProof.Rows
theorem PySem.Challenge.cw_neartold_k40_whole_keeping_by_slack_holds : PySem.Challenge.rw_neartold_k40_whole_keeping_by_slack.Holds := by
  w_on; o_law
  refine HandSHeadRun.head_any (r := OpenLaw.row PySem.Challenge.rw_neartold_k40_whole_keeping_by_slack) (q := view (OpenLaw.row PySem.Challenge.rw_neartold_k40_whole_keeping_by_slack).prog [39]) (H := NT.K.hk) (ob := NT.K.ob) (M := 4000) (loose := NT.K.loose) (d := HandSHeadRun.topDef (OpenLaw.row PySem.Challenge.rw_neartold_k40_whole_keeping_by_slack).prog 39) (kwd := []) NT.K.ob_eq
    (by kernel_rfl) (fun s => by kernel_rfl) NT.K.top_run (by kernel_rfl) (by kernel_rfl) (by kernel_rfl) (by rfl) (by first | assumption | decide +kernel) (by decide +kernel) ⟨rfl, rfl, rfl, rfl, rfl, by decide +kernel⟩ ?hw ?hc
  case hw => w_witness2
  case hc => exact NT.law_of (l := PySem.Challenge.rw_neartold_k40_whole_keeping_by_slack) (n := 30) (li := NT.K.i_law) (lf := NT.K.f_law) (x := "_law_script") rfl (by kernel_rfl) ⟨rfl, by decide, by decide⟩ NT.K.o_F (by decide +kernel) rfl rfl (by kernel_rfl) rfl (fun ns _ => NT.K.law_run ns)
